/-
  A part of the proof: conditions: none beyond each theorem's own.
-/
import Derived.Test.YtmbknoaneglilaaGreatDoorSpecA
import Derived.Test.YtmbknoaneglilaaGreatDoorLogicD
import Derived.KernelRfl
import Derived.Lib.LaidTab
import Derived.Lib.ItoaNum
import Derived.Test.YtmbknoaneglilaaGreatDoorProg
import Derived.Test.YtmbknoaneglilaaGreatDoorWalkC
import Derived.Test.YtmbknoaneglilaaGreatDoorWalkG
import Derived.Test.YtmbknoaneglilaaGreatDoorLogicA
import Derived.Test.YtmbknoaneglilaaGreatDoorLogicB
import Derived.Test.YtmbknoaneglilaaGreatDoorLogicC
import Derived.Test.YtmbknoaneglilaaGreatDoorShelf
import Derived.Test.YtmbknoaneglilaaGreatDoorWalkA
import Derived.Test.YtmbknoaneglilaaGreatDoorWalkB
import Derived.Test.YtmbknoaneglilaaGreatDoorWalkD
import Derived.Test.YtmbknoaneglilaaGreatDoorWalkE
import Derived.Test.YtmbknoaneglilaaGreatDoorWalkF
import Derived.Test.YtmbknoaneglilaaGreatDoorRow
set_option linter.all false
set_option maxHeartbeats 8000000
namespace Ol
open Ni (inn)
theorem opp_symm (a b : UInt8) : opp a b = opp b a := by unfold opp; cases decide (a = 35) <;> cases decide (b = 46) <;> cases decide (a = 46) <;> cases decide (b = 35) <;> rfl
theorem agreeRow_symm : ∀ a b : List UInt8, agreeRow a b = agreeRow b a
  | [], [] => rfl
  | [], _ :: _ => rfl
  | _ :: _, [] => rfl
  | x :: a, y :: b => by
    have ih := agreeRow_symm a b
    unfold agreeRow at ih ⊢
    simp only [List.zip_cons_cons, List.all_cons, ih, opp_symm x y]
theorem agree_symm : ∀ a b : List (List UInt8), agree a b = agree b a
  | [], [] => rfl
  | [], _ :: _ => rfl
  | _ :: _, [] => rfl
  | x :: a, y :: b => by
    have ih := agree_symm a b
    unfold agree at ih ⊢
    simp only [List.zip_cons_cons, List.all_cons, ih, agreeRow_symm x y]
theorem mists_iff {a b : List Th} : mists a b = true ↔ ∃ t ∈ a, ∃ u ∈ b, agree t.sh u.sh = true := by
  unfold mists mist; simp only [List.any_eq_true]
theorem mists_symm (a b : List Th) : mists a b = mists b a := by
  rw [Bool.eq_iff_iff, mists_iff, mists_iff]
  constructor
  · rintro ⟨t, ht, u, hu, h⟩; exact ⟨u, hu, t, ht, by rw [agree_symm]; exact h⟩
  · rintro ⟨t, ht, u, hu, h⟩; exact ⟨u, hu, t, ht, by rw [agree_symm]; exact h⟩
theorem pairI_inv {L : List (List Th)} {i : Nat} (h : pairI L i = none) : ∀ k, i < k → k < L.length → mists (L.getD i []) (L.getD k []) = false := by
  intro k hik hk
  unfold pairI at h
  cases hf : (List.range L.length).find? (fun k => decide (i < k) && mists (L.getD i []) (L.getD k [])) with
  | some q => rw [hf] at h; cases h
  | none =>
    rw [List.find?_eq_none] at hf
    have := hf k (List.mem_range.2 hk)
    simpa [hik] using this
theorem pair_none_inv {L : List (List Th)} (h : pairOf L = none) : ∀ i k, i < k → k < L.length → mists (L.getD i []) (L.getD k []) = false := by
  intro i k hik hk
  unfold pairOf at h
  rw [List.findSome?_eq_none_iff] at h
  exact pairI_inv (h i (List.mem_range.2 (by omega))) k hik hk
theorem findSome_inv {α : Type} {f : Nat → Option α} : ∀ {n : Nat} {a : α}, (List.range n).findSome? f = some a → ∃ i, i < n ∧ f i = some a ∧ ∀ j, j < i → f j = none
  | 0, a, h => by simp at h
  | n + 1, a, h => by
    rw [List.range_succ, List.findSome?_append] at h
    cases hp : (List.range n).findSome? f with
    | some b =>
      rw [hp] at h; simp only [Option.some_or, Option.some.injEq] at h; subst h
      obtain ⟨i, h1, h2, h3⟩ := findSome_inv hp
      exact ⟨i, by omega, h2, h3⟩
    | none =>
      rw [hp] at h
      rw [List.findSome?_eq_none_iff] at hp
      refine ⟨n, by omega, by simpa using h, fun j hj => hp j (List.mem_range.2 hj)⟩
theorem pair_some_inv {L : List (List Th)} {a b : Nat} (h : pairOf L = some (a, b)) : (a < b ∧ b < L.length) ∧ ∀ i k, i < k → k < L.length → mists (L.getD i []) (L.getD k []) = true → a < i ∨ (a = i ∧ b ≤ k) := by
  obtain ⟨i0, hi0, hp, hno⟩ := findSome_inv h
  have hp' := hp
  unfold pairI at hp'
  cases hf : (List.range L.length).find? (fun k => decide (i0 < k) && mists (L.getD i0 []) (L.getD k [])) with
  | none => rw [hf] at hp'; cases hp'
  | some q =>
    rw [hf] at hp'
    simp only [Option.map_some, Option.some.injEq, Prod.mk.injEq] at hp'
    obtain ⟨rfl, rfl⟩ := hp'
    rw [List.find?_range_eq_some] at hf
    obtain ⟨h1, h2, h3⟩ := hf
    simp only [Bool.and_eq_true, decide_eq_true_eq] at h1
    refine ⟨⟨h1.1, List.mem_range.1 h2⟩, fun i k hik hk hm => ?_⟩
    rcases Nat.lt_trichotomy i0 i with h | h | h
    · exact .inl h
    · subst h
      refine .inr ⟨rfl, ?_⟩
      rcases Nat.lt_or_ge k q with hq | hq
      · have := h3 k hq
        simp only [hik, decide_true, Bool.true_and, hm, Bool.not_true] at this
        cases this
      · exact hq
    · have := pairI_inv (hno i h) k hik hk
      rw [hm] at this; cases this
theorem missAt_inv {L : List (List Th)} {fig : Nat} {near : Int} (h : missAt L fig near = true) : ∃ t ∈ L.getD fig [], ∃ k, k < L.length ∧ t.rd.p.near = near ∧ k ≠ fig ∧ mist t (L.getD k []) = true := by
  unfold missAt at h
  obtain ⟨t, ht, h⟩ := List.any_eq_true.1 h
  obtain ⟨k, hk, h⟩ := List.any_eq_true.1 h
  simp only [Bool.and_eq_true, decide_eq_true_eq] at h
  exact ⟨t, ht, k, List.mem_range.1 hk, h.1, h.2.1, h.2.2⟩
theorem missAt_of {L : List (List Th)} {fig k : Nat} {t : Th} (ht : t ∈ L.getD fig []) (hk : k < L.length) (hne : k ≠ fig) (h : mist t (L.getD k []) = true) : missAt L fig t.rd.p.near = true := by
  unfold missAt
  refine List.any_eq_true.2 ⟨t, ht, List.any_eq_true.2 ⟨k, List.mem_range.2 hk, ?_⟩⟩
  rw [h]; simp [hne]
theorem toldK_full {L : List (List Th)} {fig : Nat} {lo : Int} {n : Nat} (h : ∀ near, missAt L fig near = false) : (toldK L fig lo n).length = n := by
  unfold toldK
  rw [List.filter_eq_self.2 (fun a _ => by rw [h a]; rfl)]; simp
theorem miss_free {L : List (List Th)} (h : pairOf L = none) {fig : Nat} (hf : fig < L.length) (near : Int) : missAt L fig near = false := by
  cases hm : missAt L fig near with
  | false => rfl
  | true =>
    obtain ⟨t, ht, k, hk, _, hne, hmi⟩ := missAt_inv hm
    have hms : mists (L.getD fig []) (L.getD k []) = true := List.any_eq_true.2 ⟨t, ht, hmi⟩
    rcases Nat.lt_or_gt_of_ne hne with h1 | h1
    · have := pair_none_inv h k fig h1 hf
      rw [mists_symm, hms] at this; cases this
    · have := pair_none_inv h fig k h1 hk
      rw [hms] at this; cases this
theorem told_no {L : List (List Th)} {fig : Nat} {lo : Int} {n : Nat} {near : Int} (h : missAt L fig near = true) : near ∉ toldK L fig lo n := by
  intro hm
  unfold toldK at hm
  have := (List.mem_filter.1 hm).2
  rw [h] at this; cases this
end Ol
namespace Ol
open Ni (inn)
namespace Ca
def eR (c : Ca) (k : Int) : Int := (k + 1) * (c.s.far - c.p.near) + c.s.flame * c.p.near
end Ca
end Ol
namespace Ol
open Ni (inn)
theorem mem_rdgs {x : Sn} {t : Th} : t ∈ rdgs x ↔ t.rd.fig < x.l.length ∧ t ∈ rdN x t.rd.fig := by
  unfold rdgs
  rw [List.mem_flatMap]
  constructor
  · rintro ⟨i, hi, h⟩
    have := rdN_fig h
    subst this
    exact ⟨List.mem_range.1 hi, h⟩
  · rintro ⟨h1, h2⟩; exact ⟨_, List.mem_range.2 h1, h2⟩
theorem good_mists {x : Sn} {t u : Th} (ht : t ∈ rdgs x) (hu : u ∈ rdgs x) (h : goodP t u) : mists ((byF x).getD t.rd.fig []) ((byF x).getD u.rd.fig []) = true := by
  obtain ⟨a1, a2⟩ := mem_rdgs.1 ht
  obtain ⟨b1, b2⟩ := mem_rdgs.1 hu
  have g : ∀ {i : Nat}, i < x.l.length → (byF x).getD i [] = rdN x i := fun {i} hi => by
    unfold byF; rw [getD_get (by simpa using hi)]; simp
  rw [g a1, g b1]
  exact mists_iff.2 ⟨t, a2, u, b2, h.2⟩
theorem MInv.done {x : Sn} {M : Option (Nat × Nat)} (h : MInv (rdgs x) M (rdgs x).length 0) : misOf x = M := by
  have g : ∀ {i : Nat}, i < x.l.length → (byF x).getD i [] = rdN x i := fun {i} hi => by
    unfold byF; rw [getD_get (by simpa using hi)]; simp
  have hl : (byF x).length = x.l.length := by simp [byF]
  have real : ∀ {a b : Nat}, a < b → b < x.l.length → mists ((byF x).getD a []) ((byF x).getD b []) = true → leM M a b := fun {a b} hab hb hm => by
    rw [g (by omega), g hb] at hm
    obtain ⟨t, ht, u, hu, hag⟩ := mists_iff.1 hm
    have ft := rdN_fig ht
    have fu := rdN_fig hu
    have mt : t ∈ rdgs x := mem_rdgs.2 ⟨by omega, by rw [ft]; exact ht⟩
    have mu : u ∈ rdgs x := mem_rdgs.2 ⟨by omega, by rw [fu]; exact hu⟩
    obtain ⟨p, hp, rfl⟩ := List.getElem_of_mem mt
    obtain ⟨q, hq, rfl⟩ := List.getElem_of_mem mu
    have := h.least p q hp hq (.inl hp) ⟨by omega, hag⟩
    rw [ft, fu] at this; exact this
  cases hm : misOf x with
  | none =>
    cases M with
    | none => rfl
    | some m =>
      obtain ⟨t, ht, u, hu, hg, e1, e2⟩ := h.real m rfl
      have h1 := good_mists ht hu hg
      have h2 := pair_none_inv hm _ _ hg.1 (by rw [hl]; exact (mem_rdgs.1 hu).1)
      rw [h1] at h2; cases h2
  | some m' =>
    obtain ⟨a, b⟩ := m'
    obtain ⟨⟨hab, hbl⟩, hmin⟩ := pair_some_inv hm
    rw [hl] at hbl hmin
    obtain ⟨i, hi, e, _⟩ := findSome_inv (show (List.range (byF x).length).findSome? (pairI (byF x)) = some (a, b) from hm)
    have hmm : mists ((byF x).getD a []) ((byF x).getD b []) = true := by
      unfold pairI at e
      cases hf : (List.range (byF x).length).find? (fun k => decide (i < k) && mists ((byF x).getD i []) ((byF x).getD k [])) with
      | none => rw [hf] at e; cases e
      | some k =>
        rw [hf] at e
        simp only [Option.map_some, Option.some.injEq, Prod.mk.injEq] at e
        have h1 := List.find?_some hf
        simp only [Bool.and_eq_true] at h1
        rw [← e.1, ← e.2]; exact h1.2
    have hle := real hab hbl hmm
    cases M with
    | none => unfold leM at hle; simp only [mA] at hle; omega
    | some m =>
      obtain ⟨t, ht, u, hu, hg, e1, e2⟩ := h.real m rfl
      have h1 := good_mists ht hu hg
      have h2 := hmin _ _ hg.1 (mem_rdgs.1 hu).1 h1
      unfold leM at hle
      simp only [mA, mB] at hle
      obtain ⟨m1, m2⟩ := m
      simp only at *
      congr 1
      refine Prod.ext ?_ ?_ <;> simp only <;> omega
end Ol
namespace Go.Proofs.YtmbknoaneglilaaGreatDoor
open Go Go.Ab Ni Ol
theorem en31 : Ent Tryz.prog 31 := Ent.of Tryz.func31 (by kernel_rfl) rfl
theorem en89 : Ent Tryz.prog 89 := Ent.of Tryz.func89 (by kernel_rfl) rfl
theorem rin_pure (n lo hi : Int) : APure Tryz.prog 89 [I n, I lo, I hi] (B (inn n lo hi)) := by
 refine apure_of (rs := [.tmp 6]) Tryz.func89 rfl rfl (Nat.le_of_ble_eq_true rfl) (by simp [AV.pureL, AV.pureB, AV.pureE, pureE_map]) (by first | rfl | (simp [AV.pureL, AV.pureB, AV.pureE, pureE_map])) fun e0 he0 => ?_
 refine aw_seq (aw_region ?_)
 refine asr J rfl (sq_nil (aw_seq (aw_region (mvr J rfl (mvr J rfl (sq_ev rfl (ev_geq J J) ?_))))))
 refine mvr J rfl ?_
 refine sq_split 10 J (fun g1 => ?_) (fun g1 => ?_)
 ·
  have g1' := g1
  try simp only [qq] at g1'
  refine sq_yes rfl rfl (less_b g1) rfl (ev_mv (v := .raw _) J) ?_
  refine sq_yes rfl rfl (less_b g1) rfl (ev_mv (v := .raw _) J) ?_
  refine sq_yes rfl rfl (less_b g1) rfl (ev_leq J J) ?_
  refine sq_ev rfl (ev_pickT (v := .raw _) (less_b g1) J) ?_
  refine asr J rfl (sq_nil (aw_ret ?_))
  exact retQ_pure (v := .raw _) rfl rfl (Less.eq (by simp [inn, *]))
 have g1' := g1
 try simp only [qq] at g1'
 refine sq_no rfl rfl (less_b g1) rfl rfl ?_
 refine sq_no rfl rfl (less_b g1) rfl rfl ?_
 refine sq_no rfl rfl (less_b g1) rfl rfl ?_
 refine sq_ev rfl (ev_pickF (v := .raw _) (less_b g1) J) ?_
 refine asr J rfl (sq_nil (aw_ret ?_))
 exact retQ_pure (v := .raw _) rfl rfl (Less.eq (by simp [inn, *]))
theorem rstage_pure (s : Sg) : APure Tryz.prog 24 [stA s] (B (stOK s)) := by
 refine apure_of (rs := [.tmp 2]) Tryz.func24 rfl rfl (Nat.le_of_ble_eq_true rfl) (by simp [AV.pureL, AV.pureB, AV.pureE, pureE_map]) (by first | rfl | (simp [AV.pureL, AV.pureB, AV.pureE, pureE_map])) fun e0 he0 => ?_
 refine aw_seq (aw_region (sq_box rfl J rfl (asr J rfl (sq_nil (aw_seq (aw_region (sq_ev rfl (ev_fieldAddr fo23_0 J) ?_)))))))
 refine sq_ev rfl (ev_load J rfl ty3 rfl) ?_
 refine sq_ev rfl (ev_call en89 J (rin_pure _ _ _) ⟨J, J, J, trivial⟩) ?_
 refine mvr J rfl ?_
 refine sq_split 6 J (fun g1 => ?_) (fun g1 => ?_)
 ·
  have g1' := g1
  try simp only [qq] at g1'
  refine sq_yes rfl rfl (less_b g1) rfl (ev_fieldAddr fo23_1 J) ?_
  refine sq_yes rfl rfl (less_b g1) rfl (ev_load J rfl ty3 rfl) ?_
  refine sq_yes rfl rfl (less_b g1) rfl (ev_call en89 J (rin_pure _ _ _) ⟨J, J, J, trivial⟩) ?_
  refine sq_ev rfl (ev_pickT (v := .raw _) (less_b g1) J) ?_
  refine mvr J rfl ?_
  refine sq_split 11 J (fun g2 => ?_) (fun g2 => ?_)
  ·
   have g2' := g2
   try simp only [qq] at g2'
   refine sq_yes rfl rfl (less_b g2) rfl (ev_fieldAddr fo23_2 J) ?_
   refine sq_yes rfl rfl (less_b g2) rfl (ev_load J rfl ty3 rfl) ?_
   refine sq_yes rfl rfl (less_b g2) rfl (ev_call en89 J (rin_pure _ _ _) ⟨J, J, J, trivial⟩) ?_
   refine sq_ev rfl (ev_pickT (v := .raw _) (less_b g2) J) ?_
   refine mvr J rfl ?_
   refine sq_split 16 J (fun g3 => ?_) (fun g3 => ?_)
   ·
    have g3' := g3
    try simp only [qq] at g3'
    refine sq_yes rfl rfl (less_b g3) rfl (ev_fieldAddr fo23_3 J) ?_
    refine sq_yes rfl rfl (less_b g3) rfl (ev_load J rfl ty3 rfl) ?_
    refine sq_yes rfl rfl (less_b g3) rfl (ev_call en89 J (rin_pure _ _ _) ⟨J, J, J, trivial⟩) ?_
    refine sq_ev rfl (ev_pickT (v := .raw _) (less_b g3) J) ?_
    refine mvr J rfl ?_
    refine sq_split 21 J (fun g4 => ?_) (fun g4 => ?_)
    ·
     have g4' := g4
     try simp only [qq] at g4'
     refine sq_yes rfl rfl (less_b g4) rfl (ev_fieldAddr fo23_4 J) ?_
     refine sq_yes rfl rfl (less_b g4) rfl (ev_load J rfl ty3 rfl) ?_
     refine sq_yes rfl rfl (less_b g4) rfl (ev_fieldAddr fo23_0 J) ?_
     refine sq_yes rfl rfl (less_b g4) rfl (ev_load J rfl ty3 rfl) ?_
     refine sq_yes rfl rfl (less_b g4) rfl (ev_call en89 J (rin_pure _ _ _) ⟨J, J, J, trivial⟩) ?_
     refine sq_ev rfl (ev_pickT (v := .raw _) (less_b g4) J) ?_
     refine mvr J rfl ?_
     refine sq_split 28 J (fun g5 => ?_) (fun g5 => ?_)
     ·
      have g5' := g5
      try simp only [qq] at g5'
      refine sq_yes rfl rfl (less_b g5) rfl (ev_fieldAddr fo23_5 J) ?_
      refine sq_yes rfl rfl (less_b g5) rfl (ev_load J rfl ty3 rfl) ?_
      refine sq_yes rfl rfl (less_b g5) rfl (ev_fieldAddr fo23_1 J) ?_
      refine sq_yes rfl rfl (less_b g5) rfl (ev_load J rfl ty3 rfl) ?_
      refine sq_yes rfl rfl (less_b g5) rfl (ev_call en89 J (rin_pure _ _ _) ⟨J, J, J, trivial⟩) ?_
      refine sq_ev rfl (ev_pickT (v := .raw _) (less_b g5) J) ?_
      refine asr J rfl (sq_nil (aw_ret ?_))
      exact retQ_pure (v := .raw _) rfl rfl (Less.eq (by simp [stOK, *]))
     have g5' := g5
     try simp only [qq] at g5'
     refine sq_no rfl rfl (less_b g5) rfl rfl ?_
     refine sq_no rfl rfl (less_b g5) rfl rfl ?_
     refine sq_no rfl rfl (less_b g5) rfl rfl ?_
     refine sq_no rfl rfl (less_b g5) rfl rfl ?_
     refine sq_no rfl rfl (less_b g5) rfl rfl ?_
     refine sq_ev rfl (ev_pickF (v := .raw _) (less_b g5) J) ?_
     refine asr J rfl (sq_nil (aw_ret ?_))
     exact retQ_pure (v := .raw _) rfl rfl (Less.eq (by simp [stOK, *]))
    have g4' := g4
    try simp only [qq] at g4'
    refine sq_no rfl rfl (less_b g4) rfl rfl ?_
    refine sq_no rfl rfl (less_b g4) rfl rfl ?_
    refine sq_no rfl rfl (less_b g4) rfl rfl ?_
    refine sq_no rfl rfl (less_b g4) rfl rfl ?_
    refine sq_no rfl rfl (less_b g4) rfl rfl ?_
    refine sq_ev rfl (ev_pickF (v := .raw _) (less_b g4) J) ?_
    refine mvr J rfl (sq_no rfl rfl J rfl rfl (sq_no rfl rfl J rfl rfl ?_))
    refine sq_no rfl rfl J rfl rfl (sq_no rfl rfl J rfl rfl (sq_no rfl rfl J rfl rfl (pf rfl J J (asr J rfl (sq_nil (aw_ret ?_))))))
    exact retQ_pure (v := .raw _) rfl rfl (Less.eq (by simp [stOK, *]))
   have g3' := g3
   try simp only [qq] at g3'
   refine sq_no rfl rfl (less_b g3) rfl rfl ?_
   refine sq_no rfl rfl (less_b g3) rfl rfl ?_
   refine sq_no rfl rfl (less_b g3) rfl rfl ?_
   refine sq_ev rfl (ev_pickF (v := .raw _) (less_b g3) J) ?_
   refine mvr J rfl (sq_no rfl rfl J rfl rfl (sq_no rfl rfl J rfl rfl ?_))
   refine sq_no rfl rfl J rfl rfl (sq_no rfl rfl J rfl rfl (sq_no rfl rfl J rfl rfl (pf rfl J J (mvr J rfl (sq_no rfl rfl J rfl rfl (sq_no rfl rfl J rfl rfl ?_))))))
   refine sq_no rfl rfl J rfl rfl (sq_no rfl rfl J rfl rfl (sq_no rfl rfl J rfl rfl (pf rfl J J (asr J rfl (sq_nil (aw_ret ?_))))))
   exact retQ_pure (v := .raw _) rfl rfl (Less.eq (by simp [stOK, *]))
  have g2' := g2
  try simp only [qq] at g2'
  refine sq_no rfl rfl (less_b g2) rfl rfl ?_
  refine sq_no rfl rfl (less_b g2) rfl rfl ?_
  refine sq_no rfl rfl (less_b g2) rfl rfl ?_
  refine sq_ev rfl (ev_pickF (v := .raw _) (less_b g2) J) ?_
  refine mvr J rfl ?_
  refine sq_no rfl rfl J rfl rfl (sq_no rfl rfl J rfl rfl (sq_no rfl rfl J rfl rfl (pf rfl J J (mvr J rfl (sq_no rfl rfl J rfl rfl (sq_no rfl rfl J rfl rfl ?_))))))
  refine sq_no rfl rfl J rfl rfl (sq_no rfl rfl J rfl rfl (sq_no rfl rfl J rfl rfl (pf rfl J J (mvr J rfl (sq_no rfl rfl J rfl rfl (sq_no rfl rfl J rfl rfl ?_))))))
  refine sq_no rfl rfl J rfl rfl (sq_no rfl rfl J rfl rfl (sq_no rfl rfl J rfl rfl (pf rfl J J (asr J rfl (sq_nil (aw_ret ?_))))))
  exact retQ_pure (v := .raw _) rfl rfl (Less.eq (by simp [stOK, *]))
 have g1' := g1
 try simp only [qq] at g1'
 refine sq_no rfl rfl (less_b g1) rfl rfl ?_
 refine sq_no rfl rfl (less_b g1) rfl rfl ?_
 refine sq_no rfl rfl (less_b g1) rfl rfl ?_
 refine sq_ev rfl (ev_pickF (v := .raw _) (less_b g1) J) ?_
 refine mvr J rfl (sq_no rfl rfl J rfl rfl (sq_no rfl rfl J rfl rfl (sq_no rfl rfl J rfl rfl (pf rfl J J (mvr J rfl ?_)))))
 refine sq_no rfl rfl J rfl rfl (sq_no rfl rfl J rfl rfl (sq_no rfl rfl J rfl rfl (pf rfl J J (mvr J rfl (sq_no rfl rfl J rfl rfl (sq_no rfl rfl J rfl rfl ?_))))))
 refine sq_no rfl rfl J rfl rfl (sq_no rfl rfl J rfl rfl (sq_no rfl rfl J rfl rfl (pf rfl J J (mvr J rfl (sq_no rfl rfl J rfl rfl (sq_no rfl rfl J rfl rfl ?_))))))
 refine sq_no rfl rfl J rfl rfl (sq_no rfl rfl J rfl rfl (sq_no rfl rfl J rfl rfl (pf rfl J J (asr J rfl (sq_nil (aw_ret ?_))))))
 exact retQ_pure (v := .raw _) rfl rfl (Less.eq (by simp [stOK, *]))
theorem rat_pure (x y : Int) : APure Tryz.prog 31 [I x, I y] (B (awayOK x && awayOK y)) := by
 refine apure_of (rs := [.tmp 4]) Tryz.func31 rfl rfl (Nat.le_of_ble_eq_true rfl) (by simp [AV.pureL, AV.pureB, AV.pureE, pureE_map]) (by first | rfl | (simp [AV.pureL, AV.pureB, AV.pureE, pureE_map])) fun e0 he0 => ?_
 refine aw_seq (aw_region (asr J rfl (sq_nil (aw_seq (aw_region (mvr J rfl (sq_ev rfl (ev_call en89 J (rin_pure _ _ _) ⟨J, J, J, trivial⟩) ?_)))))))
 refine mvr J rfl ?_
 refine sq_split 7 J (fun g1 => ?_) (fun g1 => ?_)
 ·
  have g1' := g1
  try simp only [qq] at g1'
  refine sq_yes rfl rfl (less_b g1) rfl (ev_mv (v := .raw _) J) ?_
  refine sq_yes rfl rfl (less_b g1) rfl (ev_call en89 J (rin_pure _ _ _) ⟨J, J, J, trivial⟩) ?_
  refine sq_ev rfl (ev_pickT (v := .raw _) (less_b g1) J) ?_
  refine asr J rfl (sq_nil (aw_ret ?_))
  exact retQ_pure (v := .raw _) rfl rfl (Less.eq (by simp [awayOK, *]))
 have g1' := g1
 try simp only [qq] at g1'
 refine sq_no rfl rfl (less_b g1) rfl rfl ?_
 refine sq_no rfl rfl (less_b g1) rfl rfl ?_
 refine sq_ev rfl (ev_pickF (v := .raw _) (less_b g1) J) ?_
 refine asr J rfl (sq_nil (aw_ret ?_))
 exact retQ_pure (v := .raw _) rfl rfl (Less.eq (by simp [awayOK, *]))
end Go.Proofs.YtmbknoaneglilaaGreatDoor
namespace Go.Proofs.YtmbknoaneglilaaGreatDoor
open Go Go.Ab Ni Ol
theorem ch_ok {c : UInt8} (h : (c.toNat : Int) = 35 ∨ (c.toNat : Int) = 46) : chOK c = true := by
  unfold chOK; simp only [decide_eq_true_eq]
  exact h.imp (fun h => UInt8.toNat_inj.1 (by show c.toNat = 35; omega)) (fun h => UInt8.toNat_inj.1 (by show c.toNat = 46; omega))
theorem ch_no {c : UInt8} (h : (c.toNat : Int) ≠ 35) (k : (c.toNat : Int) ≠ 46) : chOK c = false := by
  rw [Bool.eq_false_iff]; intro ho; unfold chOK at ho; simp only [decide_eq_true_eq] at ho
  rcases ho with e | e <;> (subst e; first | exact h rfl | exact k rfl)
theorem rfigure_pure (f : Fg) : APure Tryz.prog 25 [fgA f] (B (fgOK f)) := by
  refine apure_of (rs := [.tmp 2]) Tryz.func25 rfl rfl (Nat.le_of_ble_eq_true rfl) (by simp [AV.pureL, AV.pureB, AV.pureE, pureE_map]) (by first | rfl | (simp [AV.pureL, AV.pureB, AV.pureE, pureE_map])) fun e0 he0 => ?_
  refine aw_seq (aw_region ?_)
  refine sq_box rfl J rfl (asr J rfl (sq_nil (aw_seq (aw_seq (aw_region (sq_ev rfl (ev_fieldAddr fo26_0 J) ?_))))))
  refine sq_ev rfl (ev_load J rfl ty24 rfl) ?_
  refine sq_ev rfl (ev_len_map sl24 J) ?_
  refine sq_ev rfl (ev_call en89 J (rin_pure _ _ _) ⟨J, J, J, trivial⟩) ?_
  refine sq_ev rfl (ev_not J) ?_
  refine mvr J rfl ?_
  refine sq_split 11 J (fun g1_5 => ?_) (fun g1_5 => ?_)
  · skip
    have g1_5' := g1_5
    try simp only [qq] at g1_5'
    refine sq_no rfl rfl (less_b g1_5) rfl rfl ?_
    refine sq_no rfl rfl (less_b g1_5) rfl rfl ?_
    refine sq_no rfl rfl (less_b g1_5) rfl rfl ?_
    refine sq_no rfl rfl (less_b g1_5) rfl rfl ?_
    refine sq_no rfl rfl (less_b g1_5) rfl rfl ?_
    refine sq_no rfl rfl (less_b g1_5) rfl rfl ?_
    refine sq_no rfl rfl (less_b g1_5) rfl rfl ?_
    refine sq_ev rfl (ev_pickT (v := .raw _) (less_b g1_5) J) ?_
    refine sq_nil ?_
    refine aw_true J ?_
    refine aw_seq (aw_region (asr J rfl (sq_nil (aw_ret ?_))))
    exact retQ_pure (v := .raw _) rfl rfl (Less.eq (by unfold fgOK; simp_all))
  · skip
    have g1_5' := g1_5
    try simp only [qq] at g1_5'
    have h1 : inn f.length 1 6 = true := by simpa using g1_5
    have hlen : 1 ≤ f.length ∧ f.length ≤ 6 := by simp only [inn, Bool.and_eq_true, decide_eq_true_eq] at h1; omega
    have hw0 := w0_eq (f := f) (by omega)
    refine sq_yes rfl rfl (less_b g1_5) rfl (ev_fieldAddr fo26_0 J) ?_
    refine sq_yes rfl rfl (less_b g1_5) rfl (ev_load J rfl ty24 rfl) ?_
    refine sq_yes rfl rfl (less_b g1_5) rfl (ev_index_map (k := 0) sl24 J J rfl (by omega)) ?_
    refine sq_yes rfl rfl (less_b g1_5) rfl (ev_load_i J ty9 rfl) ?_
    refine sq_yes rfl rfl (less_b g1_5) rfl (ev_lenS Tryz.underlying9 J) ?_
    refine sq_yes rfl rfl (less_b g1_5) rfl (ev_call en89 J (rin_pure _ _ _) ⟨J, J, J, trivial⟩) ?_
    refine sq_yes rfl rfl (less_b g1_5) rfl (ev_not J) ?_
    refine sq_ev rfl (ev_pickF (v := .raw _) (less_b g1_5) J) ?_
    refine sq_nil ?_
    refine aw_cond J (fun c_19 => ?_) (fun c_19 => ?_)
    · skip
      have c_19' := c_19
      try simp only [qq] at c_19'
      refine aw_seq (aw_region (asr J rfl (sq_nil (aw_ret ?_))))
      exact retQ_pure (v := .raw _) rfl rfl (Less.eq (by unfold fgOK; rw [hw0]; simp_all))
    · skip
      have c_19' := c_19
      try simp only [qq] at c_19'
      have h2 : inn (w0 f) 1 6 = true := by rw [hw0]; simpa using c_19
      refine aw_skip (aw_seq (aw_region (asr J rfl ?_)))
      refine sq_nil (aw_seq (aw_seq (aw_region (asr J rfl (sq_nil (aw_block ?_))))))
      refine aw_loopk (ι := { k : Nat // k ≤ f.length ∧ ∀ i, (h : i < f.length) → i < k → fgRow (w0 f) f[i] = true }) [1] (fun i => [(3, B ((f.take i.1).any hasH)), (4, I i.1)]) (fun H i => H) (fun i => f.length - i.1) (⟨0, Nat.zero_le _, by omega⟩) ⟨J, J, J, trivial⟩ rfl ?_
      rintro ⟨k, hk, hok⟩
      dsimp only [keepS, St.put, sget, slotsOf, nn1, nn2, nn3, nn4, nn5, nn6, Nat.reduceBEq, Nat.reduceAdd, nn7, nn8]
      refine aw_seq (aw_seq (aw_region (mvr J rfl (sq_ev rfl (ev_fieldAddr fo26_0 J) ?_))))
      refine sq_ev rfl (ev_load J rfl ty24 rfl) ?_
      refine sq_ev rfl (ev_len_map sl24 J) ?_
      refine sq_ev rfl (ev_lss J J) ?_
      refine sq_nil ?_
      refine aw_cond J (fun c_24 => ?_) (fun c_24 => ?_)
      · skip
        have c_24' := c_24
        try simp only [qq] at c_24'
        refine aw_skip (aw_seq (aw_block (aw_seq (aw_seq ?_))))
        refine aw_draw 12 mo (by kernel_rfl) ?_
        refine dr_ev rfl (ev_fieldAddr fo26_0 J) ?_
        refine dr_ev rfl (ev_load J rfl ty24 rfl) ?_
        refine dr_ev rfl (ev_mv (v := .raw _) J) ?_
        refine dr_ev rfl (ev_index_map sl24 J J rfl (by omega)) ?_
        refine dr_ev rfl (ev_load_i J ty9 rfl) ?_
        refine dr_ev rfl (ev_lenS Tryz.underlying9 J) ?_
        refine dr_ev rfl (ev_fieldAddr fo26_0 J) ?_
        refine dr_ev rfl (ev_load J rfl ty24 rfl) ?_
        refine dr_ev rfl (ev_index_map (k := 0) sl24 J J rfl (by omega)) ?_
        refine dr_ev rfl (ev_load_i J ty9 rfl) ?_
        refine dr_ev rfl (ev_lenS Tryz.underlying9 J) ?_
        refine dr_ev rfl (ev_neq J J) ?_
        refine dr_end (sq_nil ?_)
        refine aw_cond J (fun c_38 => ?_) (fun c_38 => ?_)
        · skip
          have c_38' := c_38
          try simp only [qq] at c_38'
          refine aw_seq (aw_region (asr J rfl (sq_nil (aw_ret ?_))))
          exact retQ_pure (v := .raw _) rfl rfl (Less.eq (by rw [fg_row_bad (k := k) (by omega) (fgRow_len (by rw [hw0]; omega))]))
        · skip
          have c_38' := c_38
          try simp only [qq] at c_38'
          have hlk : f[k].length ≤ 6 := by simp only [inn, Bool.and_eq_true, decide_eq_true_eq] at h2; omega
          refine aw_skip (aw_seq (aw_region (asr J rfl (sq_nil (aw_block ?_)))))
          refine aw_loopk (ι := { j : Nat // j ≤ f[k].length ∧ ∀ i, (h : i < f[k].length) → i < j → chOK f[k][i] = true }) [1, 4] (fun q => [(3, B ((f.take k).any hasH || (f[k].take q.1).any fun c => decide (c = 35))), (5, I q.1)]) (fun H q => H) (fun q => f[k].length - q.1) (⟨0, Nat.zero_le _, by omega⟩) ⟨(Less.eq (by show B ((f.take k).any hasH) = _; simp)), J, J, J, trivial⟩ rfl ?_
          rintro ⟨j, hj, hoj⟩
          dsimp only [keepS, St.put, sget, slotsOf, nn1, nn2, nn3, nn4, nn5, nn6, Nat.reduceBEq, Nat.reduceAdd, nn7, nn8]
          refine aw_seq (aw_seq (aw_region (mvr J rfl (sq_ev rfl (ev_fieldAddr fo26_0 J) ?_))))
          refine sq_ev rfl (ev_load J rfl ty24 rfl) ?_
          refine mvr J rfl (sq_ev rfl (ev_index_map sl24 J J rfl (by omega)) ?_)
          refine sq_ev rfl (ev_load_i J ty9 rfl) ?_
          refine sq_ev rfl (ev_lenS Tryz.underlying9 J) ?_
          refine sq_ev rfl (ev_lss J J) ?_
          refine sq_nil ?_
          refine aw_cond J (fun c_46 => ?_) (fun c_46 => ?_)
          · skip
            have c_46' := c_46
            try simp only [qq] at c_46'
            have hk' : j < f[k].length := by omega
            have eC := any_take (q := fun c => decide (c = 35)) (l := f[k]) (k := j) hk'
            refine aw_skip (aw_seq (aw_block (aw_seq (aw_seq (aw_region (sq_ev rfl (ev_fieldAddr fo26_0 J) ?_))))))
            refine sq_ev rfl (ev_load J rfl ty24 rfl) ?_
            refine mvr J rfl (sq_ev rfl (ev_index_map sl24 J J rfl (by omega)) ?_)
            refine sq_ev rfl (ev_load_i J ty9 rfl) ?_
            refine mvr J rfl (sq_ev rfl (ev_idxS Tryz.underlying9 J J rfl (by omega)) ?_)
            refine sq_ev rfl (ev_neq J J) ?_
            refine mvr J rfl ?_
            refine sq_split 57 J (fun g12_8 => ?_) (fun g12_8 => ?_)
            · skip
              have g12_8' := g12_8
              try simp only [qq] at g12_8'
              refine sq_yes rfl rfl (less_b g12_8) rfl (ev_fieldAddr fo26_0 J) ?_
              refine sq_yes rfl rfl (less_b g12_8) rfl (ev_load J rfl ty24 rfl) ?_
              refine sq_yes rfl rfl (less_b g12_8) rfl (ev_mv (v := .raw _) J) ?_
              refine sq_yes rfl rfl (less_b g12_8) rfl (ev_index_map sl24 J J rfl (by omega)) ?_
              refine sq_yes rfl rfl (less_b g12_8) rfl (ev_load_i J ty9 rfl) ?_
              refine sq_yes rfl rfl (less_b g12_8) rfl (ev_mv (v := .raw _) J) ?_
              refine sq_yes rfl rfl (less_b g12_8) rfl (ev_idxS Tryz.underlying9 J J rfl (by omega)) ?_
              refine sq_yes rfl rfl (less_b g12_8) rfl (ev_neq J J) ?_
              refine sq_ev rfl (ev_pickT (v := .raw _) (less_b g12_8) J) ?_
              refine sq_nil ?_
              refine aw_cond J (fun c_66 => ?_) (fun c_66 => ?_)
              · skip
                have c_66' := c_66
                try simp only [qq] at c_66'
                refine aw_seq (aw_region (asr J rfl (sq_nil (aw_ret ?_))))
                exact retQ_pure (v := .raw _) rfl rfl (Less.eq (by rw [fg_row_bad (k := k) (by omega) (fgRow_ch (j := j) hk' (ch_no g12_8' c_66'))]))
              · skip
                have c_66' := c_66
                try simp only [qq] at c_66'
                have hch : chOK f[k][j] = true := ch_ok (.inr (by simpa using c_66))
                refine aw_skip (aw_region (mvr J rfl (mvr J rfl ?_)))
                refine sq_split 68 J (fun g14_1 => ?_) (fun g14_1 => ?_)
                · skip
                  have g14_1' := g14_1
                  try simp only [qq] at g14_1'
                  have eF : B true = B ((f.take k).any hasH || (f[k].take (j + 1)).any fun c => decide (c = 35)) := by rw [eC, ← Bool.or_assoc, g14_1]; rfl
                  refine sq_no rfl rfl (less_b g14_1) rfl rfl ?_
                  refine sq_no rfl rfl (less_b g14_1) rfl rfl ?_
                  refine sq_no rfl rfl (less_b g14_1) rfl rfl ?_
                  refine sq_no rfl rfl (less_b g14_1) rfl rfl ?_
                  refine sq_no rfl rfl (less_b g14_1) rfl rfl ?_
                  refine sq_no rfl rfl (less_b g14_1) rfl rfl ?_
                  refine sq_no rfl rfl (less_b g14_1) rfl rfl ?_
                  refine sq_no rfl rfl (less_b g14_1) rfl rfl ?_
                  refine sq_ev rfl (ev_pickT (v := .raw _) (less_b g14_1) J) ?_
                  refine asr J rfl (sq_nil (aw_region (mvr J rfl (sq_ev rfl (ev_add J J (wr (by omega) (by omega))) ?_))))
                  refine asr J rfl (sq_nil ?_)
                  exact ⟨⟨j + 1, by omega, fun i h hi => (by by_cases e : i = j; (subst e; exact hch); exact hoj i h (by omega))⟩, by simp only; omega, Sub.slots ⟨(Less.eq eF), J, J, J, trivial⟩⟩
                · skip
                  have g14_1' := g14_1
                  try simp only [qq] at g14_1'
                  have eF : B (decide (((f[k][j]).toNat : Int) = 35)) = B ((f.take k).any hasH || (f[k].take (j + 1)).any fun c => decide (c = 35)) := by rw [eC, ← Bool.or_assoc, g14_1, dec35]; rfl
                  refine sq_yes rfl rfl (less_b g14_1) rfl (ev_fieldAddr fo26_0 J) ?_
                  refine sq_yes rfl rfl (less_b g14_1) rfl (ev_load J rfl ty24 rfl) ?_
                  refine sq_yes rfl rfl (less_b g14_1) rfl (ev_mv (v := .raw _) J) ?_
                  refine sq_yes rfl rfl (less_b g14_1) rfl (ev_index_map sl24 J J rfl (by omega)) ?_
                  refine sq_yes rfl rfl (less_b g14_1) rfl (ev_load_i J ty9 rfl) ?_
                  refine sq_yes rfl rfl (less_b g14_1) rfl (ev_mv (v := .raw _) J) ?_
                  refine sq_yes rfl rfl (less_b g14_1) rfl (ev_idxS Tryz.underlying9 J J rfl (by omega)) ?_
                  refine sq_yes rfl rfl (less_b g14_1) rfl (ev_eql J J) ?_
                  refine sq_ev rfl (ev_pickF (v := .raw _) (less_b g14_1) J) ?_
                  refine asr J rfl (sq_nil (aw_region (mvr J rfl (sq_ev rfl (ev_add J J (wr (by omega) (by omega))) ?_))))
                  refine asr J rfl (sq_nil ?_)
                  exact ⟨⟨j + 1, by omega, fun i h hi => (by by_cases e : i = j; (subst e; exact hch); exact hoj i h (by omega))⟩, by simp only; omega, Sub.slots ⟨(Less.eq eF), J, J, J, trivial⟩⟩
            · skip
              have g12_8' := g12_8
              try simp only [qq] at g12_8'
              have hch : chOK f[k][j] = true := ch_ok (.inl (by simpa using g12_8))
              refine sq_no rfl rfl (less_b g12_8) rfl rfl ?_
              refine sq_no rfl rfl (less_b g12_8) rfl rfl ?_
              refine sq_no rfl rfl (less_b g12_8) rfl rfl ?_
              refine sq_no rfl rfl (less_b g12_8) rfl rfl ?_
              refine sq_no rfl rfl (less_b g12_8) rfl rfl ?_
              refine sq_no rfl rfl (less_b g12_8) rfl rfl ?_
              refine sq_no rfl rfl (less_b g12_8) rfl rfl ?_
              refine sq_no rfl rfl (less_b g12_8) rfl rfl ?_
              refine sq_ev rfl (ev_pickF (v := .raw _) (less_b g12_8) J) ?_
              refine sq_nil ?_
              refine aw_false J ?_
              refine aw_skip (aw_region (mvr J rfl (mvr J rfl ?_)))
              refine sq_split 68 J (fun g14_1 => ?_) (fun g14_1 => ?_)
              · skip
                have g14_1' := g14_1
                try simp only [qq] at g14_1'
                have eF : B true = B ((f.take k).any hasH || (f[k].take (j + 1)).any fun c => decide (c = 35)) := by rw [eC, ← Bool.or_assoc, g14_1]; rfl
                refine sq_no rfl rfl (less_b g14_1) rfl rfl ?_
                refine sq_no rfl rfl (less_b g14_1) rfl rfl ?_
                refine sq_no rfl rfl (less_b g14_1) rfl rfl ?_
                refine sq_no rfl rfl (less_b g14_1) rfl rfl ?_
                refine sq_no rfl rfl (less_b g14_1) rfl rfl ?_
                refine sq_no rfl rfl (less_b g14_1) rfl rfl ?_
                refine sq_no rfl rfl (less_b g14_1) rfl rfl ?_
                refine sq_no rfl rfl (less_b g14_1) rfl rfl ?_
                refine sq_ev rfl (ev_pickT (v := .raw _) (less_b g14_1) J) ?_
                refine asr J rfl (sq_nil (aw_region (mvr J rfl (sq_ev rfl (ev_add J J (wr (by omega) (by omega))) ?_))))
                refine asr J rfl (sq_nil ?_)
                exact ⟨⟨j + 1, by omega, fun i h hi => (by by_cases e : i = j; (subst e; exact hch); exact hoj i h (by omega))⟩, by simp only; omega, Sub.slots ⟨(Less.eq eF), J, J, J, trivial⟩⟩
              · skip
                have g14_1' := g14_1
                try simp only [qq] at g14_1'
                have eF : B (decide (((f[k][j]).toNat : Int) = 35)) = B ((f.take k).any hasH || (f[k].take (j + 1)).any fun c => decide (c = 35)) := by rw [eC, ← Bool.or_assoc, g14_1, dec35]; rfl
                refine sq_yes rfl rfl (less_b g14_1) rfl (ev_fieldAddr fo26_0 J) ?_
                refine sq_yes rfl rfl (less_b g14_1) rfl (ev_load J rfl ty24 rfl) ?_
                refine sq_yes rfl rfl (less_b g14_1) rfl (ev_mv (v := .raw _) J) ?_
                refine sq_yes rfl rfl (less_b g14_1) rfl (ev_index_map sl24 J J rfl (by omega)) ?_
                refine sq_yes rfl rfl (less_b g14_1) rfl (ev_load_i J ty9 rfl) ?_
                refine sq_yes rfl rfl (less_b g14_1) rfl (ev_mv (v := .raw _) J) ?_
                refine sq_yes rfl rfl (less_b g14_1) rfl (ev_idxS Tryz.underlying9 J J rfl (by omega)) ?_
                refine sq_yes rfl rfl (less_b g14_1) rfl (ev_eql J J) ?_
                refine sq_ev rfl (ev_pickF (v := .raw _) (less_b g14_1) J) ?_
                refine asr J rfl (sq_nil (aw_region (mvr J rfl (sq_ev rfl (ev_add J J (wr (by omega) (by omega))) ?_))))
                refine asr J rfl (sq_nil ?_)
                exact ⟨⟨j + 1, by omega, fun i h hi => (by by_cases e : i = j; (subst e; exact hch); exact hoj i h (by omega))⟩, by simp only; omega, Sub.slots ⟨(Less.eq eF), J, J, J, trivial⟩⟩
          · skip
            have c_46' := c_46
            try simp only [qq] at c_46'
            refine aw_exit (aw_region (mvr J rfl (sq_ev rfl (ev_add J J (wr (by omega) (by omega))) ?_)))
            refine asr J rfl (sq_nil ?_)
            have hgood : fgRow (w0 f) f[k] = true := fgRow_ok (by omega) (fun i h => hoj i h (by omega))
            have eA := any_take (q := hasH) (l := f) (k := k) (by omega)
            have eB : hasH f[k] = (f[k].take j).any (fun c => decide (c = 35)) := by unfold hasH; rw [List.take_of_length_le (by omega)]
            exact ⟨⟨k + 1, by omega, fun i h hi => (by by_cases e : i = k; (subst e; exact hgood); exact hok i h (by omega))⟩, by simp only; omega, Sub.slots ⟨(Less.eq (show B ((f.take k).any hasH || (f[k].take j).any fun c => decide (c = 35)) = _ by rw [eA, eB])), J, J, trivial⟩⟩
      · skip
        have c_24' := c_24
        try simp only [qq] at c_24'
        refine aw_exit (aw_seq (aw_region (mvr J rfl (asr J rfl (sq_nil (aw_ret ?_))))))
        exact retQ_pure (v := .raw _) rfl rfl (Less.eq (by rw [fg_end h1 h2 (fun i h => hok i h (by omega)), show k = f.length by omega, List.take_length]))
end Go.Proofs.YtmbknoaneglilaaGreatDoor
namespace Go.Proofs.YtmbknoaneglilaaGreatDoor
open Go Go.Ab Ni Ol
theorem ty73 : tySz Tryz.prog 73 = some (true, 4) := by kernel_rfl
end Go.Proofs.YtmbknoaneglilaaGreatDoor
namespace Go.Proofs.YtmbknoaneglilaaGreatDoor
open Go Go.Ab Ni Ol
theorem en111 : Ent Tryz.prog 111 := Ent.of Tryz.func111 (by kernel_rfl) rfl
theorem en112 : Ent Tryz.prog 112 := Ent.of Tryz.func112 (by kernel_rfl) rfl
theorem en154 : Ent Tryz.prog 154 := Ent.of Tryz.func154 (by kernel_rfl) rfl
theorem en23 : Ent Tryz.prog 23 := Ent.of Tryz.func23 (by kernel_rfl) rfl
theorem en24 : Ent Tryz.prog 24 := Ent.of Tryz.func24 (by kernel_rfl) rfl
theorem en25 : Ent Tryz.prog 25 := Ent.of Tryz.func25 (by kernel_rfl) rfl
theorem en29 : Ent Tryz.prog 29 := Ent.of Tryz.func29 (by kernel_rfl) rfl
theorem en34 : Ent Tryz.prog 34 := Ent.of Tryz.func34 (by kernel_rfl) rfl
theorem en36 : Ent Tryz.prog 36 := Ent.of Tryz.func36 (by kernel_rfl) rfl
theorem en37 : Ent Tryz.prog 37 := Ent.of Tryz.func37 (by kernel_rfl) rfl
theorem en41 : Ent Tryz.prog 41 := Ent.of Tryz.func41 (by kernel_rfl) rfl
theorem en49 : Ent Tryz.prog 49 := Ent.of Tryz.func49 (by kernel_rfl) rfl
theorem en50 : Ent Tryz.prog 50 := Ent.of Tryz.func50 (by kernel_rfl) rfl
theorem en51 : Ent Tryz.prog 51 := Ent.of Tryz.func51 (by kernel_rfl) rfl
theorem en72 : Ent Tryz.prog 72 := Ent.of Tryz.func72 (by kernel_rfl) rfl
theorem en85 : Ent Tryz.prog 85 := Ent.of Tryz.func85 (by kernel_rfl) rfl
theorem allT_no {α : Type} {q : α → Bool} {l : List α} {n i : Nat} (hi : i < l.length) (hn : i < n) (h : q l[i] = false) : (l.take n).all q = false := by
  rw [List.all_eq_false]
  have hm : i < (l.take n).length := by rw [List.length_take]; omega
  exact ⟨(l.take n)[i], List.getElem_mem hm, by rw [List.getElem_take, h]; simp⟩
theorem allT_yes {α : Type} {q : α → Bool} {l : List α} {n : Nat} (h : ∀ i, (hi : i < l.length) → i < n → q l[i] = true) : (l.take n).all q = true := by
  rw [List.all_eq_true]
  intro x hx
  obtain ⟨i, hi, rfl⟩ := List.getElem_of_mem hx
  rw [List.length_take] at hi
  rw [List.getElem_take]; exact h i (by omega) (by omega)
def shortB (l : List (List UInt8)) : Bool := (l.take 20).all (fun r => decide (r.length ≤ 20)) && decide (l.length ≤ 18)
def fewB (l : List Fg) : Bool := (l.take 9).all shortB && decide (l.length ≤ 8)
theorem shortB_sz {l : List (List UInt8)} (h : shortB l = true) : l.length ≤ 18 ∧ ∀ r ∈ l, r.length ≤ 20 := by
  unfold shortB at h
  simp only [Bool.and_eq_true, decide_eq_true_eq] at h
  rw [List.take_of_length_le (by omega)] at h
  exact ⟨h.2, fun r hr => by have := List.all_eq_true.1 h.1 r hr; simpa using this⟩
theorem fewB_sz {l : List Fg} (h : fewB l = true) : l.length ≤ 8 ∧ ∀ f ∈ l, f.length ≤ 18 ∧ ∀ r ∈ f, r.length ≤ 20 := by
  unfold fewB at h
  simp only [Bool.and_eq_true, decide_eq_true_eq] at h
  rw [List.take_of_length_le (by omega)] at h
  exact ⟨h.2, fun f hf => shortB_sz (List.all_eq_true.1 h.1 f hf)⟩
def spn (lo hi : Int) : Bool := decide (lo ≤ hi) && decide (hi - lo < 6)
theorem rcOK_eq (s : Sg) (r : Rc) : rcOK s r = (inn r.nl 0 (s.far - 1) && (inn r.nh 0 (s.far - 1) && (spn r.nl r.nh && ((awayOK r.xl && awayOK r.y) && ((awayOK r.xh && awayOK r.y) && spn r.xl r.xh))))) := by
  unfold rcOK pcOK spOK spn inn awayOK
  rw [Bool.eq_iff_iff]
  simp only [Bool.and_eq_true, decide_eq_true_eq, inn]
  omega
theorem coOK_ref (l : List Fg) : coOK l = (decide (0 < l.length) && ((l.take 6).all fgOK && decide (l.length ≤ 6))) := by
  rw [coOK_eq, Bool.eq_iff_iff]
  simp only [Bool.and_eq_true, inn, decide_eq_true_eq, Bool.not_eq_true', List.any_eq_false, Bool.not_eq_true, Bool.not_eq_false', List.all_eq_true]
  constructor
  · rintro ⟨h1, h2⟩
    exact ⟨by omega, fun f hf => by have := h2 f (List.mem_of_mem_take hf); simpa using this, by omega⟩
  · rintro ⟨h1, h2, h3⟩
    rw [List.take_of_length_le h3] at h2
    exact ⟨by omega, fun f hf => by have := h2 f hf; simp [this]⟩
def askE (x : Sn) (is : Bool) : Int := if (snOK x && is) = true then 0 else 2
theorem snOK_eq (x : Sn) : snOK x = (stOK x.s && (coOK x.l && rcOK x.s x.r)) := by unfold snOK; rw [Bool.and_assoc]
def readB (n : Nat) (r : Rc) (f : Int) (p : Pc) : Bool := decide (f ≥ 0) && (decide (f < n) && (decide (p.near ≥ r.nl) && (decide (p.near ≤ r.nh) && (decide (p.x ≥ r.xl) && (decide (p.x ≤ r.xh) && decide (p.y = r.y))))))
def wholeB (s : Sg) (c : List (List UInt8)) : Bool := siOK s c && decide (cnt 63 c = 0)
theorem short_pure (l : List (List UInt8)) : APure Tryz.prog 23 [strs l] (B (shortB l)) := by
  refine apure_of (rs := [.tmp 2]) Tryz.func23 rfl rfl (Nat.le_of_ble_eq_true rfl) (by simp [AV.pureL, AV.pureB, AV.pureE, pureE_map]) (by first | rfl | (simp [AV.pureL, AV.pureB, AV.pureE, pureE_map])) fun e0 he0 => ?_
  refine aw_seq (aw_region (asr J rfl ?_))
  refine sq_nil (aw_seq (aw_seq (aw_region (asr J rfl (sq_nil (aw_block ?_))))))
  refine aw_loopk (ι := { k : Nat // k ≤ l.length ∧ k ≤ 20 ∧ ∀ i, (h : i < l.length) → i < k → decide (l[i].length ≤ 20) = true }) [0] (fun g => [(3, I g.1)]) (fun H g => H) (fun g => 20 - g.1) (⟨0, Nat.zero_le _, by omega, by omega⟩) ⟨J, J, trivial⟩ rfl ?_
  rintro ⟨k, hk, hok⟩
  dsimp only [keepS, St.put, sget, slotsOf, nn1, nn2, nn3, nn4, nn5, nn6, Nat.reduceBEq, Nat.reduceAdd, nn7, nn8]
  refine aw_seq (aw_seq (aw_region (mvr J rfl (mvs rfl J (sq_ev rfl (ev_len_map sl24 J) ?_)))))
  refine sq_ev rfl (ev_lss J J) ?_
  refine mvr J rfl ?_
  refine sq_split 8 J (fun g2_4 => ?_) (fun g2_4 => ?_)
  · skip
    have g2_4' := g2_4
    try simp only [qq] at g2_4'
    have hkL : k < l.length := by omega
    refine sq_yes rfl rfl (less_b g2_4) rfl (ev_mv (v := .raw _) J) ?_
    refine sq_yes rfl rfl (less_b g2_4) rfl (ev_lss J J) ?_
    refine sq_ev rfl (ev_pickT (v := .raw _) (less_b g2_4) J) ?_
    refine sq_nil ?_
    refine aw_cond J (fun c_11 => ?_) (fun c_11 => ?_)
    · skip
      have c_11' := c_11
      try simp only [qq] at c_11'
      refine aw_skip (aw_seq (aw_block (aw_seq (aw_region (mvs rfl J (mvr J rfl (sq_ev rfl (ev_index_map sl24 J J rfl (by omega)) ?_)))))))
      refine sq_ev rfl (ev_load_i J ty9 rfl) ?_
      refine sq_ev rfl (ev_lenS Tryz.underlying9 J) ?_
      refine sq_ev rfl (ev_gtr J J) ?_
      refine sq_nil ?_
      refine aw_cond J (fun c_19 => ?_) (fun c_19 => ?_)
      · skip
        have c_19' := c_19
        try simp only [qq] at c_19'
        refine aw_seq (aw_region (asr J rfl (sq_nil (aw_ret ?_))))
        exact retQ_pure (v := .raw _) rfl rfl (Less.eq (by rw [shortB, allT_no (i := k) (n := 20) hkL (by omega) (by simp only [decide_eq_false_iff_not]; omega)]; rfl))
      · skip
        have c_19' := c_19
        try simp only [qq] at c_19'
        refine aw_skip (aw_region (mvr J rfl (sq_ev rfl (ev_add J J (wr (by omega) (by omega))) ?_)))
        refine asr J rfl (sq_nil ?_)
        have hgood : decide (l[k].length ≤ 20) = true := by simp only [decide_eq_true_eq]; omega
        exact ⟨⟨k + 1, by omega, by omega, fun i h hi => (by by_cases e : i = k; (subst e; exact hgood); exact hok.2 i h (by omega))⟩, by simp only; omega, Sub.slots ⟨J, J, trivial⟩⟩
    · skip
      have c_11' := c_11
      try simp only [qq] at c_11'
      refine aw_exit (aw_seq (aw_region (mvs rfl J (sq_ev rfl (ev_len_map sl24 J) ?_))))
      refine sq_ev rfl (ev_leq J J) ?_
      refine asr J rfl (sq_nil (aw_ret ?_))
      exact retQ_pure (v := .raw _) rfl rfl (Less.eq (by rw [shortB, allT_yes (n := 20) (fun i h hi => hok.2 i h (by omega))]; simp; omega))
  · skip
    have g2_4' := g2_4
    try simp only [qq] at g2_4'
    refine sq_no rfl rfl (less_b g2_4) rfl rfl ?_
    refine sq_no rfl rfl (less_b g2_4) rfl rfl ?_
    refine sq_ev rfl (ev_pickF (v := .raw _) (less_b g2_4) J) ?_
    refine sq_nil ?_
    refine aw_false J ?_
    refine aw_exit (aw_seq (aw_region (mvs rfl J (sq_ev rfl (ev_len_map sl24 J) ?_))))
    refine sq_ev rfl (ev_leq J J) ?_
    refine asr J rfl (sq_nil (aw_ret ?_))
    exact retQ_pure (v := .raw _) rfl rfl (Less.eq (by rw [shortB, allT_yes (n := 20) (fun i h hi => hok.2 i h (by omega))]; simp; omega))
theorem few_pure (l : List Fg) : APure Tryz.prog 34 [figs l] (B (fewB l)) := by
 refine apure_of (rs := [.tmp 2]) Tryz.func34 rfl rfl (Nat.le_of_ble_eq_true rfl) (by simp [AV.pureL, AV.pureB, AV.pureE, pureE_map]) (by first | rfl | (simp [AV.pureL, AV.pureB, AV.pureE, pureE_map])) fun e0 he0 => ?_
 refine aw_seq (aw_region (asr J rfl ?_))
 refine sq_nil (aw_seq (aw_seq (aw_region (asr J rfl (sq_nil (aw_block ?_))))))
 refine aw_loopk (ι := { k : Nat // k ≤ l.length ∧ k ≤ 9 ∧ ∀ i, (h : i < l.length) → i < k → shortB l[i] = true }) [0] (fun g => [(3, I g.1)]) (fun H g => H) (fun g => 9 - g.1) (⟨0, Nat.zero_le _, by omega, by omega⟩) ⟨J, J, trivial⟩ rfl ?_
 rintro ⟨k, hk, hok⟩
 dsimp only [keepS, St.put, sget, slotsOf, nn1, nn2, nn3, nn4, nn5, nn6, Nat.reduceBEq, Nat.reduceAdd, nn7, nn8]
 refine aw_seq (aw_seq (aw_region (mvr J rfl (mvs rfl J (sq_ev rfl (ev_len_map sl45 J) ?_)))))
 refine sq_ev rfl (ev_lss J J) ?_
 refine mvr J rfl ?_
 refine sq_split 8 J (fun g2_4 => ?_) (fun g2_4 => ?_)
 ·
  have g2_4' := g2_4
  try simp only [qq] at g2_4'
  have hkL : k < l.length := by omega
  refine sq_yes rfl rfl (less_b g2_4) rfl (ev_mv (v := .raw _) J) ?_
  refine sq_yes rfl rfl (less_b g2_4) rfl (ev_lss J J) ?_
  refine sq_ev rfl (ev_pickT (v := .raw _) (less_b g2_4) J) ?_
  refine sq_nil ?_
  refine aw_cond J (fun c_11 => ?_) (fun c_11 => ?_)
  ·
   have c_11' := c_11
   try simp only [qq] at c_11'
   refine aw_skip (aw_seq (aw_block (aw_seq (aw_region (mvs rfl J (mvr J rfl (sq_ev rfl (ev_index_map sl45 J J rfl (by omega)) ?_)))))))
   refine sq_ev rfl (ev_fieldAddr_i fo26_0 J) ?_
   refine sq_ev rfl (ev_load_i J ty24 rfl) ?_
   refine sq_ev rfl (ev_call en23 J (short_pure _) ⟨J, trivial⟩) ?_
   refine sq_ev rfl (ev_not J) ?_
   refine sq_nil ?_
   refine aw_cond J (fun c_20 => ?_) (fun c_20 => ?_)
   ·
    have c_20' := c_20
    try simp only [qq] at c_20'
    refine aw_seq (aw_region (asr J rfl (sq_nil (aw_ret ?_))))
    exact retQ_pure (v := .raw _) rfl rfl (Less.eq (by rw [fewB, allT_no (i := k) (n := 9) hkL (by omega) (by simpa using c_20)]; rfl))
   have c_20' := c_20
   try simp only [qq] at c_20'
   refine aw_skip (aw_region (mvr J rfl (sq_ev rfl (ev_add J J (wr (by omega) (by omega))) ?_)))
   refine asr J rfl (sq_nil ?_)
   have hgood : shortB l[k] = true := by simpa using c_20
   exact ⟨⟨k + 1, by omega, by omega, fun i h hi => (by by_cases e : i = k; (subst e; exact hgood); exact hok.2 i h (by omega))⟩, by simp only; omega, Sub.slots ⟨J, J, trivial⟩⟩
  have c_11' := c_11
  try simp only [qq] at c_11'
  refine aw_exit (aw_seq (aw_region (mvs rfl J (sq_ev rfl (ev_len_map sl45 J) ?_))))
  refine sq_ev rfl (ev_leq J J) ?_
  refine asr J rfl (sq_nil (aw_ret ?_))
  exact retQ_pure (v := .raw _) rfl rfl (Less.eq (by rw [fewB, allT_yes (n := 9) (fun i h hi => hok.2 i h (by omega))]; simp; omega))
 have g2_4' := g2_4
 try simp only [qq] at g2_4'
 refine sq_no rfl rfl (less_b g2_4) rfl rfl ?_
 refine sq_no rfl rfl (less_b g2_4) rfl rfl ?_
 refine sq_ev rfl (ev_pickF (v := .raw _) (less_b g2_4) J) ?_
 refine sq_nil ?_
 refine aw_false J ?_
 refine aw_exit (aw_seq (aw_region (mvs rfl J (sq_ev rfl (ev_len_map sl45 J) ?_))))
 refine sq_ev rfl (ev_leq J J) ?_
 refine asr J rfl (sq_nil (aw_ret ?_))
 exact retQ_pure (v := .raw _) rfl rfl (Less.eq (by rw [fewB, allT_yes (n := 9) (fun i h hi => hok.2 i h (by omega))]; simp; omega))
theorem rfigures_pure (l : List Fg) : APure Tryz.prog 85 [figs l] (B ((l.take 6).all fgOK && decide (l.length ≤ 6))) := by
 refine apure_of (rs := [.tmp 2]) Tryz.func85 rfl rfl (Nat.le_of_ble_eq_true rfl) (by simp [AV.pureL, AV.pureB, AV.pureE, pureE_map]) (by first | rfl | (simp [AV.pureL, AV.pureB, AV.pureE, pureE_map])) fun e0 he0 => ?_
 refine aw_seq (aw_region (asr J rfl ?_))
 refine sq_nil (aw_seq (aw_seq (aw_region (asr J rfl (sq_nil (aw_block ?_))))))
 refine aw_loopk (ι := { k : Nat // k ≤ l.length ∧ k ≤ 6 ∧ ∀ i, (h : i < l.length) → i < k → fgOK l[i] = true }) [0] (fun g => [(3, I g.1)]) (fun H g => H) (fun g => 6 - g.1) (⟨0, Nat.zero_le _, by omega, by omega⟩) ⟨J, J, trivial⟩ rfl ?_
 rintro ⟨k, hk, hok⟩
 dsimp only [keepS, St.put, sget, slotsOf, nn1, nn2, nn3, nn4, nn5, nn6, Nat.reduceBEq, Nat.reduceAdd, nn7, nn8]
 refine aw_seq (aw_seq (aw_region (mvr J rfl (mvs rfl J (sq_ev rfl (ev_len_map sl45 J) ?_)))))
 refine sq_ev rfl (ev_lss J J) ?_
 refine mvr J rfl ?_
 refine sq_split 8 J (fun g2_4 => ?_) (fun g2_4 => ?_)
 ·
  have g2_4' := g2_4
  try simp only [qq] at g2_4'
  have hkL : k < l.length := by omega
  refine sq_yes rfl rfl (less_b g2_4) rfl (ev_mv (v := .raw _) J) ?_
  refine sq_yes rfl rfl (less_b g2_4) rfl (ev_lss J J) ?_
  refine sq_ev rfl (ev_pickT (v := .raw _) (less_b g2_4) J) ?_
  refine sq_nil ?_
  refine aw_cond J (fun c_11 => ?_) (fun c_11 => ?_)
  ·
   have c_11' := c_11
   try simp only [qq] at c_11'
   refine aw_skip (aw_seq (aw_block (aw_seq (aw_region (mvs rfl J (mvr J rfl (sq_ev rfl (ev_index_map sl45 J J rfl (by omega)) ?_)))))))
   refine sq_ev rfl (ev_load_agg_i J ty26 (by exact Nat.le_of_ble_eq_true rfl)) ?_
   refine sq_ev rfl (ev_call en25 J (rfigure_pure _) ⟨J, trivial⟩) ?_
   refine sq_ev rfl (ev_not J) ?_
   refine sq_nil ?_
   refine aw_cond J (fun c_19 => ?_) (fun c_19 => ?_)
   ·
    have c_19' := c_19
    try simp only [qq] at c_19'
    refine aw_seq (aw_region (asr J rfl (sq_nil (aw_ret ?_))))
    exact retQ_pure (v := .raw _) rfl rfl (Less.eq (by rw [allT_no (i := k) (n := 6) hkL (by omega) (by simpa using c_19)]; rfl))
   have c_19' := c_19
   try simp only [qq] at c_19'
   refine aw_skip (aw_region (mvr J rfl (sq_ev rfl (ev_add J J (wr (by omega) (by omega))) ?_)))
   refine asr J rfl (sq_nil ?_)
   have hgood : fgOK l[k] = true := by simpa using c_19
   exact ⟨⟨k + 1, by omega, by omega, fun i h hi => (by by_cases e : i = k; (subst e; exact hgood); exact hok.2 i h (by omega))⟩, by simp only; omega, Sub.slots ⟨J, J, trivial⟩⟩
  have c_11' := c_11
  try simp only [qq] at c_11'
  refine aw_exit (aw_seq (aw_region (mvs rfl J (sq_ev rfl (ev_len_map sl45 J) ?_))))
  refine sq_ev rfl (ev_leq J J) ?_
  refine asr J rfl (sq_nil (aw_ret ?_))
  exact retQ_pure (v := .raw _) rfl rfl (Less.eq (by rw [allT_yes (n := 6) (fun i h hi => hok.2 i h (by omega))]; simp; omega))
 have g2_4' := g2_4
 try simp only [qq] at g2_4'
 refine sq_no rfl rfl (less_b g2_4) rfl rfl ?_
 refine sq_no rfl rfl (less_b g2_4) rfl rfl ?_
 refine sq_ev rfl (ev_pickF (v := .raw _) (less_b g2_4) J) ?_
 refine sq_nil ?_
 refine aw_false J ?_
 refine aw_exit (aw_seq (aw_region (mvs rfl J (sq_ev rfl (ev_len_map sl45 J) ?_))))
 refine sq_ev rfl (ev_leq J J) ?_
 refine asr J rfl (sq_nil (aw_ret ?_))
 exact retQ_pure (v := .raw _) rfl rfl (Less.eq (by rw [allT_yes (n := 6) (fun i h hi => hok.2 i h (by omega))]; simp; omega))
theorem rcompany_pure (l : List Fg) : APure Tryz.prog 111 [figs l] (B (coOK l)) := by
 refine apure_of (rs := [.tmp 2]) Tryz.func111 rfl rfl (Nat.le_of_ble_eq_true rfl) (by simp [AV.pureL, AV.pureB, AV.pureE, pureE_map]) (by first | rfl | (simp [AV.pureL, AV.pureB, AV.pureE, pureE_map])) fun e0 he0 => ?_
 refine aw_seq (aw_region (asr J rfl (sq_nil (aw_seq (aw_region (mvs rfl J (sq_ev rfl (ev_len_map sl45 J) ?_)))))))
 refine sq_ev rfl (ev_gtr J J) ?_
 refine mvr J rfl ?_
 refine sq_split 6 J (fun g1_3 => ?_) (fun g1_3 => ?_)
 ·
  have g1_3' := g1_3
  try simp only [qq] at g1_3'
  refine sq_yes rfl rfl (less_b g1_3) rfl (ev_mv (v := .sl _ _) J) ?_
  refine sq_yes rfl rfl (less_b g1_3) rfl (ev_call en85 J (rfigures_pure l) ⟨J, trivial⟩) ?_
  refine sq_ev rfl (ev_pickT (v := .raw _) (less_b g1_3) J) ?_
  refine asr J rfl (sq_nil (aw_ret ?_))
  exact retQ_pure (v := .raw _) rfl rfl (Less.eq (by rw [coOK_ref]; simp [*] <;> (intros; omega)))
 have g1_3' := g1_3
 try simp only [qq] at g1_3'
 refine sq_no rfl rfl (less_b g1_3) rfl rfl ?_
 refine sq_no rfl rfl (less_b g1_3) rfl rfl ?_
 refine sq_ev rfl (ev_pickF (v := .raw _) (less_b g1_3) J) ?_
 refine asr J rfl (sq_nil (aw_ret ?_))
 exact retQ_pure (v := .raw _) rfl rfl (Less.eq (by rw [coOK_ref]; simp [*] <;> (intros; omega)))
theorem rspan_pure (a b : Int) (h1 : -1000 ≤ a ∧ a ≤ 1000) (h2 : -1000 ≤ b ∧ b ≤ 1000) : APure Tryz.prog 154 [.agg [I a, I b]] (B (spn a b)) := by
 refine apure_of (rs := [.tmp 2]) Tryz.func154 rfl rfl (Nat.le_of_ble_eq_true rfl) (by simp [AV.pureL, AV.pureB, AV.pureE, pureE_map]) (by first | rfl | (simp [AV.pureL, AV.pureB, AV.pureE, pureE_map])) fun e0 he0 => ?_
 refine aw_seq (aw_region (sq_box rfl J rfl (asr J rfl (sq_nil (aw_seq (aw_region (sq_ev rfl (ev_fieldAddr fo47_0 J) ?_)))))))
 refine sq_ev rfl (ev_load J rfl ty3 rfl) ?_
 refine sq_ev rfl (ev_fieldAddr fo47_1 J) ?_
 refine sq_ev rfl (ev_load J rfl ty3 rfl) ?_
 refine sq_ev rfl (ev_leq J J) ?_
 refine mvr J rfl ?_
 refine sq_split 8 J (fun g1_5 => ?_) (fun g1_5 => ?_)
 ·
  have g1_5' := g1_5
  try simp only [qq] at g1_5'
  refine sq_yes rfl rfl (less_b g1_5) rfl (ev_fieldAddr fo47_1 J) ?_
  refine sq_yes rfl rfl (less_b g1_5) rfl (ev_load J rfl ty3 rfl) ?_
  refine sq_yes rfl rfl (less_b g1_5) rfl (ev_fieldAddr fo47_0 J) ?_
  refine sq_yes rfl rfl (less_b g1_5) rfl (ev_load J rfl ty3 rfl) ?_
  refine sq_yes rfl rfl (less_b g1_5) rfl (ev_sub J J (wr (by omega) (by omega))) ?_
  refine sq_yes rfl rfl (less_b g1_5) rfl (ev_lss J J) ?_
  refine sq_ev rfl (ev_pickT (v := .raw _) (less_b g1_5) J) ?_
  refine asr J rfl (sq_nil (aw_ret ?_))
  exact retQ_pure (v := .raw _) rfl rfl (Less.eq (by unfold spn; simp [*]))
 have g1_5' := g1_5
 try simp only [qq] at g1_5'
 refine sq_no rfl rfl (less_b g1_5) rfl rfl ?_
 refine sq_no rfl rfl (less_b g1_5) rfl rfl ?_
 refine sq_no rfl rfl (less_b g1_5) rfl rfl ?_
 refine sq_no rfl rfl (less_b g1_5) rfl rfl ?_
 refine sq_no rfl rfl (less_b g1_5) rfl rfl ?_
 refine sq_no rfl rfl (less_b g1_5) rfl rfl ?_
 refine sq_ev rfl (ev_pickF (v := .raw _) (less_b g1_5) J) ?_
 refine asr J rfl (sq_nil (aw_ret ?_))
 exact retQ_pure (v := .raw _) rfl rfl (Less.eq (by unfold spn; simp [*]))
theorem rreach_pure (s : Sg) (r : Rc) (h : 2 ≤ s.far ∧ s.far ≤ 40) : APure Tryz.prog 112 [stA s, rcA r] (B (rcOK s r)) := by
 refine apure_of (rs := [.tmp 4]) Tryz.func112 rfl rfl (Nat.le_of_ble_eq_true rfl) (by simp [AV.pureL, AV.pureB, AV.pureE, pureE_map]) (by first | rfl | (simp [AV.pureL, AV.pureB, AV.pureE, pureE_map])) fun e0 he0 => ?_
 refine aw_seq (aw_region ?_)
 refine sq_box rfl J rfl (sq_box rfl J rfl (asr J rfl (sq_nil (aw_seq (aw_region (sq_ev rfl (ev_fieldAddr fo49_0 J) ?_))))))
 refine sq_ev rfl (ev_fieldAddr fo47_0 J) ?_
 refine sq_ev rfl (ev_load J rfl ty3 rfl) ?_
 refine sq_ev rfl (ev_fieldAddr fo23_2 J) ?_
 refine sq_ev rfl (ev_load J rfl ty3 rfl) ?_
 refine sq_ev rfl (ev_sub J J (wr (by omega) (by omega))) ?_
 refine sq_ev rfl (ev_call en89 J (rin_pure _ _ _) ⟨J, J, J, trivial⟩) ?_
 refine mvr J rfl ?_
 refine sq_split 12 J (fun g1_7 => ?_) (fun g1_7 => ?_)
 ·
  have g1_7' := g1_7
  try simp only [qq] at g1_7'
  refine sq_yes rfl rfl (less_b g1_7) rfl (ev_fieldAddr fo49_0 J) ?_
  refine sq_yes rfl rfl (less_b g1_7) rfl (ev_fieldAddr fo47_1 J) ?_
  refine sq_yes rfl rfl (less_b g1_7) rfl (ev_load J rfl ty3 rfl) ?_
  refine sq_yes rfl rfl (less_b g1_7) rfl (ev_fieldAddr fo23_2 J) ?_
  refine sq_yes rfl rfl (less_b g1_7) rfl (ev_load J rfl ty3 rfl) ?_
  refine sq_yes rfl rfl (less_b g1_7) rfl (ev_sub J J (wr (by omega) (by omega))) ?_
  refine sq_yes rfl rfl (less_b g1_7) rfl (ev_call en89 J (rin_pure _ _ _) ⟨J, J, J, trivial⟩) ?_
  refine sq_ev rfl (ev_pickT (v := .raw _) (less_b g1_7) J) ?_
  refine mvr J rfl ?_
  refine sq_split 21 J (fun g1_16 => ?_) (fun g1_16 => ?_)
  ·
   have g1_16' := g1_16
   try simp only [qq] at g1_16'
   refine sq_yes rfl rfl (less_b g1_16) rfl (ev_fieldAddr fo49_0 J) ?_
   refine sq_yes rfl rfl (less_b g1_16) rfl (ev_load_agg J rfl ty47 rfl) ?_
   refine sq_yes rfl rfl (less_b g1_16) rfl (ev_call en154 J (rspan_pure r.nl r.nh (by have := g1_7; unfold inn at this; simp only [Bool.and_eq_true, decide_eq_true_eq] at this; omega) (by have := g1_16; unfold inn at this; simp only [Bool.and_eq_true, decide_eq_true_eq] at this; omega)) ⟨J, trivial⟩) ?_
   refine sq_ev rfl (ev_pickT (v := .raw _) (less_b g1_16) J) ?_
   refine mvr J rfl ?_
   refine sq_split 26 J (fun g1_21 => ?_) (fun g1_21 => ?_)
   ·
    have g1_21' := g1_21
    try simp only [qq] at g1_21'
    refine sq_yes rfl rfl (less_b g1_21) rfl (ev_fieldAddr fo49_1 J) ?_
    refine sq_yes rfl rfl (less_b g1_21) rfl (ev_fieldAddr fo47_0 J) ?_
    refine sq_yes rfl rfl (less_b g1_21) rfl (ev_load J rfl ty3 rfl) ?_
    refine sq_yes rfl rfl (less_b g1_21) rfl (ev_fieldAddr fo49_2 J) ?_
    refine sq_yes rfl rfl (less_b g1_21) rfl (ev_load J rfl ty3 rfl) ?_
    refine sq_yes rfl rfl (less_b g1_21) rfl (ev_call en31 J (rat_pure _ _) ⟨J, J, trivial⟩) ?_
    refine sq_ev rfl (ev_pickT (v := .raw _) (less_b g1_21) J) ?_
    refine mvr J rfl ?_
    refine sq_split 34 J (fun g1_29 => ?_) (fun g1_29 => ?_)
    ·
     have g1_29' := g1_29
     try simp only [qq] at g1_29'
     refine sq_yes rfl rfl (less_b g1_29) rfl (ev_fieldAddr fo49_1 J) ?_
     refine sq_yes rfl rfl (less_b g1_29) rfl (ev_fieldAddr fo47_1 J) ?_
     refine sq_yes rfl rfl (less_b g1_29) rfl (ev_load J rfl ty3 rfl) ?_
     refine sq_yes rfl rfl (less_b g1_29) rfl (ev_fieldAddr fo49_2 J) ?_
     refine sq_yes rfl rfl (less_b g1_29) rfl (ev_load J rfl ty3 rfl) ?_
     refine sq_yes rfl rfl (less_b g1_29) rfl (ev_call en31 J (rat_pure _ _) ⟨J, J, trivial⟩) ?_
     refine sq_ev rfl (ev_pickT (v := .raw _) (less_b g1_29) J) ?_
     refine mvr J rfl ?_
     refine sq_split 42 J (fun g1_37 => ?_) (fun g1_37 => ?_)
     ·
      have g1_37' := g1_37
      try simp only [qq] at g1_37'
      refine sq_yes rfl rfl (less_b g1_37) rfl (ev_fieldAddr fo49_1 J) ?_
      refine sq_yes rfl rfl (less_b g1_37) rfl (ev_load_agg J rfl ty47 rfl) ?_
      refine sq_yes rfl rfl (less_b g1_37) rfl (ev_call en154 J (rspan_pure r.xl r.xh (by have := g1_29; unfold awayOK inn at this; simp only [Bool.and_eq_true, decide_eq_true_eq] at this; omega) (by have := g1_37; unfold awayOK inn at this; simp only [Bool.and_eq_true, decide_eq_true_eq] at this; omega)) ⟨J, trivial⟩) ?_
      refine sq_ev rfl (ev_pickT (v := .raw _) (less_b g1_37) J) ?_
      refine asr J rfl (sq_nil (aw_ret ?_))
      exact retQ_pure (v := .raw _) rfl rfl (Less.eq (by rw [rcOK_eq]; first | (simp [*]; done) | (cases hq : awayOK r.xh <;> cases hq2 : awayOK r.y <;> simp_all)))
     have g1_37' := g1_37
     try simp only [qq] at g1_37'
     refine sq_no rfl rfl (less_b g1_37) rfl rfl ?_
     refine sq_no rfl rfl (less_b g1_37) rfl rfl ?_
     refine sq_no rfl rfl (less_b g1_37) rfl rfl ?_
     refine sq_ev rfl (ev_pickF (v := .raw _) (less_b g1_37) J) ?_
     refine asr J rfl (sq_nil (aw_ret ?_))
     exact retQ_pure (v := .raw _) rfl rfl (Less.eq (by rw [rcOK_eq]; first | (simp [*]; done) | (cases hq : awayOK r.xh <;> cases hq2 : awayOK r.y <;> simp_all)))
    have g1_29' := g1_29
    try simp only [qq] at g1_29'
    refine sq_no rfl rfl (less_b g1_29) rfl rfl ?_
    refine sq_no rfl rfl (less_b g1_29) rfl rfl ?_
    refine sq_no rfl rfl (less_b g1_29) rfl rfl ?_
    refine sq_no rfl rfl (less_b g1_29) rfl rfl ?_
    refine sq_no rfl rfl (less_b g1_29) rfl rfl ?_
    refine sq_no rfl rfl (less_b g1_29) rfl rfl ?_
    refine sq_ev rfl (ev_pickF (v := .raw _) (less_b g1_29) J) ?_
    refine mvr J rfl ?_
    refine sq_no rfl rfl J rfl rfl (sq_no rfl rfl J rfl rfl (sq_no rfl rfl J rfl rfl (pf rfl J J (asr J rfl (sq_nil (aw_ret ?_))))))
    exact retQ_pure (v := .raw _) rfl rfl (Less.eq (by rw [rcOK_eq]; first | (simp [*]; done) | (cases hq : awayOK r.xh <;> cases hq2 : awayOK r.y <;> simp_all)))
   have g1_21' := g1_21
   try simp only [qq] at g1_21'
   refine sq_no rfl rfl (less_b g1_21) rfl rfl ?_
   refine sq_no rfl rfl (less_b g1_21) rfl rfl ?_
   refine sq_no rfl rfl (less_b g1_21) rfl rfl ?_
   refine sq_no rfl rfl (less_b g1_21) rfl rfl ?_
   refine sq_no rfl rfl (less_b g1_21) rfl rfl ?_
   refine sq_no rfl rfl (less_b g1_21) rfl rfl ?_
   refine sq_ev rfl (ev_pickF (v := .raw _) (less_b g1_21) J) ?_
   refine mvr J rfl (sq_no rfl rfl J rfl rfl ?_)
   refine sq_no rfl rfl J rfl rfl (sq_no rfl rfl J rfl rfl (sq_no rfl rfl J rfl rfl (sq_no rfl rfl J rfl rfl (sq_no rfl rfl J rfl rfl (pf rfl J J (mvr J rfl ?_))))))
   refine sq_no rfl rfl J rfl rfl (sq_no rfl rfl J rfl rfl (sq_no rfl rfl J rfl rfl (pf rfl J J (asr J rfl (sq_nil (aw_ret ?_))))))
   exact retQ_pure (v := .raw _) rfl rfl (Less.eq (by rw [rcOK_eq]; first | (simp [*]; done) | (cases hq : awayOK r.xh <;> cases hq2 : awayOK r.y <;> simp_all)))
  have g1_16' := g1_16
  try simp only [qq] at g1_16'
  refine sq_no rfl rfl (less_b g1_16) rfl rfl ?_
  refine sq_no rfl rfl (less_b g1_16) rfl rfl ?_
  refine sq_no rfl rfl (less_b g1_16) rfl rfl ?_
  refine sq_ev rfl (ev_pickF (v := .raw _) (less_b g1_16) J) ?_
  refine mvr J rfl (sq_no rfl rfl J rfl rfl (sq_no rfl rfl J rfl rfl ?_))
  refine sq_no rfl rfl J rfl rfl (sq_no rfl rfl J rfl rfl (sq_no rfl rfl J rfl rfl (sq_no rfl rfl J rfl rfl (pf rfl J J (mvr J rfl (sq_no rfl rfl J rfl rfl ?_))))))
  refine sq_no rfl rfl J rfl rfl (sq_no rfl rfl J rfl rfl (sq_no rfl rfl J rfl rfl (sq_no rfl rfl J rfl rfl (sq_no rfl rfl J rfl rfl (pf rfl J J (mvr J rfl ?_))))))
  refine sq_no rfl rfl J rfl rfl (sq_no rfl rfl J rfl rfl (sq_no rfl rfl J rfl rfl (pf rfl J J (asr J rfl (sq_nil (aw_ret ?_))))))
  exact retQ_pure (v := .raw _) rfl rfl (Less.eq (by rw [rcOK_eq]; first | (simp [*]; done) | (cases hq : awayOK r.xh <;> cases hq2 : awayOK r.y <;> simp_all)))
 have g1_7' := g1_7
 try simp only [qq] at g1_7'
 refine sq_no rfl rfl (less_b g1_7) rfl rfl ?_
 refine sq_no rfl rfl (less_b g1_7) rfl rfl ?_
 refine sq_no rfl rfl (less_b g1_7) rfl rfl ?_
 refine sq_no rfl rfl (less_b g1_7) rfl rfl ?_
 refine sq_no rfl rfl (less_b g1_7) rfl rfl ?_
 refine sq_no rfl rfl (less_b g1_7) rfl rfl ?_
 refine sq_no rfl rfl (less_b g1_7) rfl rfl ?_
 refine sq_ev rfl (ev_pickF (v := .raw _) (less_b g1_7) J) ?_
 refine mvr J rfl ?_
 refine sq_no rfl rfl J rfl rfl (sq_no rfl rfl J rfl rfl (sq_no rfl rfl J rfl rfl (pf rfl J J (mvr J rfl (sq_no rfl rfl J rfl rfl (sq_no rfl rfl J rfl rfl ?_))))))
 refine sq_no rfl rfl J rfl rfl (sq_no rfl rfl J rfl rfl (sq_no rfl rfl J rfl rfl (sq_no rfl rfl J rfl rfl (pf rfl J J (mvr J rfl (sq_no rfl rfl J rfl rfl ?_))))))
 refine sq_no rfl rfl J rfl rfl (sq_no rfl rfl J rfl rfl (sq_no rfl rfl J rfl rfl (sq_no rfl rfl J rfl rfl (sq_no rfl rfl J rfl rfl (pf rfl J J (mvr J rfl ?_))))))
 refine sq_no rfl rfl J rfl rfl (sq_no rfl rfl J rfl rfl (sq_no rfl rfl J rfl rfl (pf rfl J J (asr J rfl (sq_nil (aw_ret ?_))))))
 exact retQ_pure (v := .raw _) rfl rfl (Less.eq (by rw [rcOK_eq]; first | (simp [*]; done) | (cases hq : awayOK r.xh <;> cases hq2 : awayOK r.y <;> simp_all)))
theorem asked_pure (x : Sn) (is : Bool) : APure Tryz.prog 36 [stA x.s, figs x.l, rcA x.r, B is] (I (askE x is)) := by
 refine apure_of (rs := [.tmp 8]) Tryz.func36 rfl rfl (Nat.le_of_ble_eq_true rfl) (by simp [AV.pureL, AV.pureB, AV.pureE, pureE_map]) (by first | rfl | (simp [AV.pureL, AV.pureB, AV.pureE, pureE_map])) fun e0 he0 => ?_
 refine aw_seq (aw_region (sq_box rfl J rfl ?_))
 refine sq_box rfl J rfl (asr J rfl (sq_nil (aw_seq (aw_seq (aw_region (sq_ev rfl (ev_load_agg J rfl ty23 rfl) ?_))))))
 refine sq_ev rfl (ev_call en24 J (rstage_pure x.s) ⟨J, trivial⟩) ?_
 refine sq_ev rfl (ev_not J) ?_
 refine mvr J rfl ?_
 refine sq_split 12 J (fun g1_3 => ?_) (fun g1_3 => ?_)
 ·
  have g1_3' := g1_3
  try simp only [qq] at g1_3'
  refine sq_no rfl rfl (less_b g1_3) rfl rfl ?_
  refine sq_no rfl rfl (less_b g1_3) rfl rfl ?_
  refine sq_no rfl rfl (less_b g1_3) rfl rfl ?_
  refine sq_ev rfl (ev_pickT (v := .raw _) (less_b g1_3) J) ?_
  refine mvr J rfl (sq_no rfl rfl J rfl rfl (sq_no rfl rfl J rfl rfl (sq_no rfl rfl J rfl rfl (sq_no rfl rfl J rfl rfl (sq_ev rfl (ev_pickT (v := .raw _) J J) ?_)))))
  refine mvr J rfl (sq_no rfl rfl J rfl rfl (sq_no rfl rfl J rfl rfl (sq_ev rfl (ev_pickT (v := .raw _) J J) ?_)))
  refine sq_nil ?_
  refine aw_true J ?_
  refine aw_seq (aw_region (asr J rfl (sq_nil (aw_ret ?_))))
  exact retQ_pure (v := .raw _) rfl rfl (Less.eq (by unfold askE; rw [snOK_eq]; simp_all))
 have g1_3' := g1_3
 try simp only [qq] at g1_3'
 refine sq_yes rfl rfl (less_b g1_3) rfl (ev_mv (v := .sl _ _) J) ?_
 refine sq_yes rfl rfl (less_b g1_3) rfl (ev_call en111 J (rcompany_pure x.l) ⟨J, trivial⟩) ?_
 refine sq_yes rfl rfl (less_b g1_3) rfl (ev_not J) ?_
 refine sq_ev rfl (ev_pickF (v := .raw _) (less_b g1_3) J) ?_
 refine mvr J rfl ?_
 refine sq_split 17 J (fun g1_8 => ?_) (fun g1_8 => ?_)
 ·
  have g1_8' := g1_8
  try simp only [qq] at g1_8'
  refine sq_no rfl rfl (less_b g1_8) rfl rfl ?_
  refine sq_no rfl rfl (less_b g1_8) rfl rfl ?_
  refine sq_no rfl rfl (less_b g1_8) rfl rfl ?_
  refine sq_no rfl rfl (less_b g1_8) rfl rfl ?_
  refine sq_ev rfl (ev_pickT (v := .raw _) (less_b g1_8) J) ?_
  refine mvr J rfl (sq_no rfl rfl J rfl rfl (sq_no rfl rfl J rfl rfl (sq_ev rfl (ev_pickT (v := .raw _) J J) ?_)))
  refine sq_nil ?_
  refine aw_true J ?_
  refine aw_seq (aw_region (asr J rfl (sq_nil (aw_ret ?_))))
  exact retQ_pure (v := .raw _) rfl rfl (Less.eq (by unfold askE; rw [snOK_eq]; simp_all))
 have g1_8' := g1_8
 try simp only [qq] at g1_8'
 refine sq_yes rfl rfl (less_b g1_8) rfl (ev_load_agg J rfl ty23 rfl) ?_
 refine sq_yes rfl rfl (less_b g1_8) rfl (ev_load_agg J rfl ty49 rfl) ?_
 refine sq_yes rfl rfl (less_b g1_8) rfl (ev_call en112 J (rreach_pure x.s x.r (stOK_iff.1 (by simpa using g1_3)).2.2.1) ⟨J, J, trivial⟩) ?_
 refine sq_yes rfl rfl (less_b g1_8) rfl (ev_not J) ?_
 refine sq_ev rfl (ev_pickF (v := .raw _) (less_b g1_8) J) ?_
 refine mvr J rfl ?_
 refine sq_split 23 J (fun g1_14 => ?_) (fun g1_14 => ?_)
 ·
  have g1_14' := g1_14
  try simp only [qq] at g1_14'
  refine sq_no rfl rfl (less_b g1_14) rfl rfl ?_
  refine sq_no rfl rfl (less_b g1_14) rfl rfl ?_
  refine sq_ev rfl (ev_pickT (v := .raw _) (less_b g1_14) J) ?_
  refine sq_nil ?_
  refine aw_true J ?_
  refine aw_seq (aw_region (asr J rfl (sq_nil (aw_ret ?_))))
  exact retQ_pure (v := .raw _) rfl rfl (Less.eq (by unfold askE; rw [snOK_eq]; simp_all))
 have g1_14' := g1_14
 try simp only [qq] at g1_14'
 refine sq_yes rfl rfl (less_b g1_14) rfl (ev_mv (v := .raw _) J) ?_
 refine sq_yes rfl rfl (less_b g1_14) rfl (ev_not J) ?_
 refine sq_ev rfl (ev_pickF (v := .raw _) (less_b g1_14) J) ?_
 refine sq_nil ?_
 refine aw_cond J (fun c_26 => ?_) (fun c_26 => ?_)
 ·
  have c_26' := c_26
  try simp only [qq] at c_26'
  refine aw_seq (aw_region (asr J rfl (sq_nil (aw_ret ?_))))
  exact retQ_pure (v := .raw _) rfl rfl (Less.eq (by unfold askE; rw [snOK_eq]; simp_all))
 have c_26' := c_26
 try simp only [qq] at c_26'
 refine aw_skip (aw_seq (aw_region (asr J rfl (sq_nil (aw_ret ?_)))))
 exact retQ_pure (v := .raw _) rfl rfl (Less.eq (by unfold askE; rw [snOK_eq]; simp_all))
theorem rsight_pure (s : Sg) (l : List (List UInt8)) (hs : shp l) : APure Tryz.prog 37 [stA s, strs l] (B (siOK s l)) := by
 refine apure_of (rs := [.tmp 4]) Tryz.func37 rfl rfl (Nat.le_of_ble_eq_true rfl) (by simp [AV.pureL, AV.pureB, AV.pureE, pureE_map]) (by first | rfl | (simp [AV.pureL, AV.pureB, AV.pureE, pureE_map])) fun e0 he0 => ?_
 refine aw_seq (aw_region (sq_box rfl J rfl ?_))
 refine asr J rfl (sq_nil (aw_seq (aw_seq (aw_region (mvs rfl J (sq_ev rfl (ev_len_map sl24 J) ?_))))))
 refine sq_ev rfl (ev_fieldAddr fo23_1 J) ?_
 refine sq_ev rfl (ev_load J rfl ty3 rfl) ?_
 refine sq_ev rfl (ev_neq J J) ?_
 refine sq_nil ?_
 refine aw_cond J (fun c_12 => ?_) (fun c_12 => ?_)
 ·
  have c_12' := c_12
  try simp only [qq] at c_12'
  refine aw_seq (aw_region (asr J rfl (sq_nil (aw_ret ?_))))
  exact retQ_pure (v := .raw _) rfl rfl (Less.eq (by unfold siOK; rw [decide_eq_false c_12']; rfl))
 have c_12' := c_12
 try simp only [qq] at c_12'
 have hlen : (l.length : Int) = s.high := by omega
 refine aw_skip (aw_seq (aw_seq (aw_region (asr J rfl (sq_nil (aw_block ?_))))))
 refine aw_loopk (ι := { m : Nat // m ≤ l.length ∧ ∀ i, (h : i < l.length) → i < m → siRow s.wide l[i] = true }) [1, 2] (fun g => [(5, I g.1)]) (fun H g => H) (fun g => l.length - g.1) (⟨0, Nat.zero_le _, by omega⟩) ⟨J, J, J, trivial⟩ rfl ?_
 rintro ⟨m, hm, hok⟩
 dsimp only [keepS, St.put, sget, slotsOf, nn1, nn2, nn3, nn4, nn5, nn6, Nat.reduceBEq, Nat.reduceAdd, nn7, nn8]
 have hs1 := hs.1
 refine aw_seq (aw_seq (aw_region (mvr J rfl (mvs rfl J (sq_ev rfl (ev_len_map sl24 J) ?_)))))
 refine sq_ev rfl (ev_lss J J) ?_
 refine sq_nil ?_
 refine aw_cond J (fun c_16 => ?_) (fun c_16 => ?_)
 ·
  have c_16' := c_16
  try simp only [qq] at c_16'
  have hmL : m < l.length := by omega
  have hrl := hs.2 _ (List.getElem_mem hmL)
  refine aw_skip (aw_seq (aw_block (aw_seq (aw_seq ?_))))
  refine aw_draw 8 mo (by kernel_rfl) ?_
  refine dr_ev rfl (ev_mv (v := .sl _ _) J) ?_
  refine dr_ev rfl (ev_mv (v := .raw _) J) ?_
  refine dr_ev rfl (ev_index_map sl24 J J rfl (by omega)) ?_
  refine dr_ev rfl (ev_load_i J ty9 rfl) ?_
  refine dr_ev rfl (ev_lenS Tryz.underlying9 J) ?_
  refine dr_ev rfl (ev_fieldAddr fo23_0 J) ?_
  refine dr_ev rfl (ev_load J rfl ty3 rfl) ?_
  refine dr_ev rfl (ev_neq J J) ?_
  refine dr_end (sq_nil ?_)
  refine aw_cond J (fun c_26 => ?_) (fun c_26 => ?_)
  ·
   have c_26' := c_26
   try simp only [qq] at c_26'
   refine aw_seq (aw_region (asr J rfl (sq_nil (aw_ret ?_))))
   exact retQ_pure (v := .raw _) rfl rfl (Less.eq (by rw [siOK_bad hmL (by rw [siRow_eq, decide_eq_false (by simpa using c_26')]; rfl)]))
  have c_26' := c_26
  try simp only [qq] at c_26'
  refine aw_skip (aw_seq (aw_region (asr J rfl (sq_nil (aw_block ?_)))))
  refine aw_loopk (ι := { k : Nat // k ≤ l[m].length ∧ ∀ i, (h : i < l[m].length) → i < k → sBad l[m][i] = false }) [1, 2, 5] (fun g => [(6, I g.1)]) (fun H g => H) (fun g => l[m].length - g.1) (⟨0, Nat.zero_le _, by omega⟩) ⟨J, J, J, J, trivial⟩ rfl ?_
  rintro ⟨k, hk, hok2⟩
  dsimp only [keepS, St.put, sget, slotsOf, nn1, nn2, nn3, nn4, nn5, nn6, Nat.reduceBEq, Nat.reduceAdd, nn7, nn8]
  refine aw_seq (aw_seq (aw_region (mvr J rfl (mvs rfl J (mvr J rfl (sq_ev rfl (ev_index_map sl24 J J rfl (by omega)) ?_))))))
  refine sq_ev rfl (ev_load_i J ty9 rfl) ?_
  refine sq_ev rfl (ev_lenS Tryz.underlying9 J) ?_
  refine sq_ev rfl (ev_lss J J) ?_
  refine sq_nil ?_
  refine aw_cond J (fun c_33 => ?_) (fun c_33 => ?_)
  ·
   have c_33' := c_33
   try simp only [qq] at c_33'
   have hkL : k < l[m].length := by omega
   refine aw_skip (aw_seq (aw_block (aw_seq (aw_region (mvs rfl J (mvr J rfl (sq_ev rfl (ev_index_map sl24 J J rfl (by omega)) ?_)))))))
   refine sq_ev rfl (ev_load_i J ty9 rfl) ?_
   refine mvr J rfl (sq_ev rfl (ev_idxS Tryz.underlying9 J J rfl (by omega)) ?_)
   refine asr J rfl (sq_nil (aw_seq (aw_region (mvr J rfl (sq_ev rfl (ev_neq J J) ?_)))))
   refine mvr J rfl ?_
   refine sq_split 44 J (fun g12_2 => ?_) (fun g12_2 => ?_)
   ·
    have g12_2' := g12_2
    try simp only [qq] at g12_2'
    refine sq_yes rfl rfl (less_b g12_2) rfl (ev_mv (v := .raw _) J) ?_
    refine sq_yes rfl rfl (less_b g12_2) rfl (ev_neq J J) ?_
    refine sq_ev rfl (ev_pickT (v := .raw _) (less_b g12_2) J) ?_
    refine mvr J rfl ?_
    refine sq_split 48 J (fun g12_6 => ?_) (fun g12_6 => ?_)
    ·
     have g12_6' := g12_6
     try simp only [qq] at g12_6'
     refine sq_yes rfl rfl (less_b g12_6) rfl (ev_mv (v := .raw _) J) ?_
     refine sq_yes rfl rfl (less_b g12_6) rfl (ev_neq J J) ?_
     refine sq_ev rfl (ev_pickT (v := .raw _) (less_b g12_6) J) ?_
     refine mvr J rfl ?_
     refine sq_split 52 J (fun g12_10 => ?_) (fun g12_10 => ?_)
     ·
      have g12_10' := g12_10
      try simp only [qq] at g12_10'
      refine sq_yes rfl rfl (less_b g12_10) rfl (ev_mv (v := .raw _) J) ?_
      refine sq_yes rfl rfl (less_b g12_10) rfl (ev_neq J J) ?_
      refine sq_ev rfl (ev_pickT (v := .raw _) (less_b g12_10) J) ?_
      refine sq_nil ?_
      refine aw_cond J (fun c_55 => ?_) (fun c_55 => ?_)
      ·
       have c_55' := c_55
       try simp only [qq] at c_55'
       refine aw_seq (aw_region (asr J rfl (sq_nil (aw_ret ?_))))
       exact retQ_pure (v := .raw _) rfl rfl (Less.eq (by rw [siOK_bad hmL (by rw [siRow_eq, List.any_eq_true.2 ⟨_, List.getElem_mem hkL, by rw [sBad_eq]; simp only [dec35n, dec43n, dec46n, dec63n] at *; simp_all⟩]; simp)]))
      have c_55' := c_55
      try simp only [qq] at c_55'
      refine aw_skip (aw_region (mvr J rfl (sq_ev rfl (ev_add J J (wr (by omega) (by omega))) ?_)))
      refine asr J rfl (sq_nil ?_)
      have hgood2 : sBad l[m][k] = false := by rw [sBad_eq]; simp only [dec35n, dec43n, dec46n, dec63n] at *; simp_all
      exact ⟨⟨k + 1, by omega, fun i h hi => (by by_cases e : i = k; (subst e; exact hgood2); exact hok2 i h (by omega))⟩, by simp only; omega, Sub.slots ⟨J, J, J, J, trivial⟩⟩
     have g12_10' := g12_10
     try simp only [qq] at g12_10'
     refine sq_no rfl rfl (less_b g12_10) rfl rfl ?_
     refine sq_no rfl rfl (less_b g12_10) rfl rfl ?_
     refine sq_ev rfl (ev_pickF (v := .raw _) (less_b g12_10) J) ?_
     refine sq_nil ?_
     refine aw_false J ?_
     refine aw_skip (aw_region (mvr J rfl (sq_ev rfl (ev_add J J (wr (by omega) (by omega))) ?_)))
     refine asr J rfl (sq_nil ?_)
     have hgood2 : sBad l[m][k] = false := by rw [sBad_eq]; simp only [dec35n, dec43n, dec46n, dec63n] at *; simp_all
     exact ⟨⟨k + 1, by omega, fun i h hi => (by by_cases e : i = k; (subst e; exact hgood2); exact hok2 i h (by omega))⟩, by simp only; omega, Sub.slots ⟨J, J, J, J, trivial⟩⟩
    have g12_6' := g12_6
    try simp only [qq] at g12_6'
    refine sq_no rfl rfl (less_b g12_6) rfl rfl ?_
    refine sq_no rfl rfl (less_b g12_6) rfl rfl ?_
    refine sq_ev rfl (ev_pickF (v := .raw _) (less_b g12_6) J) ?_
    refine mvr J rfl (sq_no rfl rfl J rfl rfl (sq_no rfl rfl J rfl rfl (pf rfl J J (sq_nil ?_))))
    refine aw_false J ?_
    refine aw_skip (aw_region (mvr J rfl (sq_ev rfl (ev_add J J (wr (by omega) (by omega))) ?_)))
    refine asr J rfl (sq_nil ?_)
    have hgood2 : sBad l[m][k] = false := by rw [sBad_eq]; simp only [dec35n, dec43n, dec46n, dec63n] at *; simp_all
    exact ⟨⟨k + 1, by omega, fun i h hi => (by by_cases e : i = k; (subst e; exact hgood2); exact hok2 i h (by omega))⟩, by simp only; omega, Sub.slots ⟨J, J, J, J, trivial⟩⟩
   have g12_2' := g12_2
   try simp only [qq] at g12_2'
   refine sq_no rfl rfl (less_b g12_2) rfl rfl ?_
   refine sq_no rfl rfl (less_b g12_2) rfl rfl ?_
   refine sq_ev rfl (ev_pickF (v := .raw _) (less_b g12_2) J) ?_
   refine mvr J rfl (sq_no rfl rfl J rfl rfl ?_)
   refine sq_no rfl rfl J rfl rfl (pf rfl J J (mvr J rfl (sq_no rfl rfl J rfl rfl (sq_no rfl rfl J rfl rfl (pf rfl J J (sq_nil ?_))))))
   refine aw_false J ?_
   refine aw_skip (aw_region (mvr J rfl (sq_ev rfl (ev_add J J (wr (by omega) (by omega))) ?_)))
   refine asr J rfl (sq_nil ?_)
   have hgood2 : sBad l[m][k] = false := by rw [sBad_eq]; simp only [dec35n, dec43n, dec46n, dec63n] at *; simp_all
   exact ⟨⟨k + 1, by omega, fun i h hi => (by by_cases e : i = k; (subst e; exact hgood2); exact hok2 i h (by omega))⟩, by simp only; omega, Sub.slots ⟨J, J, J, J, trivial⟩⟩
  have c_33' := c_33
  try simp only [qq] at c_33'
  refine aw_exit (aw_region (mvr J rfl (sq_ev rfl (ev_add J J (wr (by omega) (by omega))) ?_)))
  refine asr J rfl (sq_nil ?_)
  have hgood : siRow s.wide l[m] = true := by rw [siRow_eq, decide_eq_true (by simpa using c_26'), List.any_eq_false.2 (fun q hq => by obtain ⟨i, hi, rfl⟩ := List.getElem_of_mem hq; simp [hok2 i hi (by omega)])]; rfl
  exact ⟨⟨m + 1, by omega, fun i h hi => (by by_cases e : i = m; (subst e; exact hgood); exact hok i h (by omega))⟩, by simp only; omega, Sub.slots ⟨J, J, J, trivial⟩⟩
 have c_16' := c_16
 try simp only [qq] at c_16'
 refine aw_exit (aw_seq (aw_region (asr J rfl (sq_nil (aw_ret ?_)))))
 exact retQ_pure (v := .raw _) rfl rfl (Less.eq (by rw [siOK_end hlen (fun i hi => hok i hi (by omega))]))
end Go.Proofs.YtmbknoaneglilaaGreatDoor
namespace Go.Proofs.YtmbknoaneglilaaGreatDoor
open Go Go.Ab Ni Ol
def cntR (ch : UInt8) (r : List UInt8) (k : Nat) : Int := ((r.take k).count ch : Int)
theorem cntR_succ {ch : UInt8} {r : List UInt8} {k : Nat} (h : k < r.length) : cntR ch r (k + 1) = cntR ch r k + (if r[k] = ch then 1 else 0) := by
  unfold cntR; rw [List.take_succ_eq_append_getElem h, List.count_append]
  by_cases e : r[k] = ch
  · rw [if_pos e, e]; simp
  · rw [if_neg e]; simp [List.count_singleton, e]
theorem cntR_bd (ch : UInt8) (r : List UInt8) (k : Nat) : 0 ≤ cntR ch r k ∧ cntR ch r k ≤ k := by
  unfold cntR
  have h1 := List.count_le_length (a := ch) (l := r.take k)
  rw [List.length_take] at h1
  omega
theorem cntR_all (ch : UInt8) (r : List UInt8) : cntR ch r r.length = (r.count ch : Int) := by unfold cntR; rw [List.take_length]
theorem rcount_pure (l : List (List UInt8)) (ch : UInt8) (hl : l.length ≤ 1000) (hr : ∀ r ∈ l, r.length ≤ 1000) : APure Tryz.prog 41 [strs l, C ch] (I (cnt ch l)) := by
  refine apure_of (rs := [.tmp 4]) Tryz.func41 rfl rfl (Nat.le_of_ble_eq_true rfl) (by simp [AV.pureL, AV.pureB, AV.pureE, pureE_map]) (by first | rfl | (simp [AV.pureL, AV.pureB, AV.pureE, pureE_map])) fun e0 he0 => ?_
  refine aw_seq (aw_region (asr J rfl (sq_nil (aw_seq (aw_region (asr J rfl ?_))))))
  refine sq_nil (aw_seq (aw_seq (aw_region (asr J rfl (sq_nil (aw_block ?_))))))
  refine aw_loopk (ι := { m : Nat // m ≤ l.length }) [0, 1] (fun g => [(5, I (cnt ch (l.take g.1))), (6, I g.1)]) (fun H g => H) (fun g => l.length - g.1) (⟨0, Nat.zero_le _⟩) ⟨J, J, J, J, trivial⟩ rfl ?_
  rintro ⟨m, hm⟩
  dsimp only [keepS, St.put, sget, slotsOf, nn1, nn2, nn3, nn4, nn5, nn6, Nat.reduceBEq, Nat.reduceAdd, nn7, nn8]
  have hb := cnt_bd ch (l.take m) 1000 (fun r h => hr r (List.mem_of_mem_take h))
  have hb2 : ((l.take m).length : Int) * (1000 : Nat) ≤ 1000000 := by rw [List.length_take]; omega
  refine aw_seq (aw_seq (aw_region (mvr J rfl (mvs rfl J (sq_ev rfl (ev_len_map sl24 J) ?_)))))
  refine sq_ev rfl (ev_lss J J) ?_
  refine sq_nil ?_
  refine aw_cond J (fun c_11 => ?_) (fun c_11 => ?_)
  · skip
    have c_11' := c_11
    try simp only [qq] at c_11'
    have hmL : m < l.length := by omega
    have hrl := hr _ (List.getElem_mem hmL)
    refine aw_skip (aw_seq (aw_block (aw_seq (aw_region (asr J rfl (sq_nil (aw_block ?_)))))))
    refine aw_loopk (ι := { k : Nat // k ≤ l[m].length }) [0, 1, 6] (fun g => [(5, I (cnt ch (l.take m) + cntR ch l[m] g.1)), (7, I g.1)]) (fun H g => H) (fun g => l[m].length - g.1) (⟨0, Nat.zero_le _⟩) ⟨(by exact less_int (by simp [cntR])), J, J, J, J, trivial⟩ rfl ?_
    rintro ⟨k, hk⟩
    dsimp only [keepS, St.put, sget, slotsOf, nn1, nn2, nn3, nn4, nn5, nn6, Nat.reduceBEq, Nat.reduceAdd, nn7, nn8]
    have hbr := cntR_bd ch l[m] k
    refine aw_seq (aw_seq (aw_region (mvr J rfl (mvs rfl J (mvr J rfl (sq_ev rfl (ev_index_map sl24 J J rfl (by omega)) ?_))))))
    refine sq_ev rfl (ev_load_i J ty9 rfl) ?_
    refine sq_ev rfl (ev_lenS Tryz.underlying9 J) ?_
    refine sq_ev rfl (ev_lss J J) ?_
    refine sq_nil ?_
    refine aw_cond J (fun c_20 => ?_) (fun c_20 => ?_)
    · skip
      have c_20' := c_20
      try simp only [qq] at c_20'
      have hkL : k < l[m].length := by omega
      refine aw_skip (aw_seq (aw_block (aw_seq (aw_region (mvs rfl J (mvr J rfl (sq_ev rfl (ev_index_map sl24 J J rfl (by omega)) ?_)))))))
      refine sq_ev rfl (ev_load_i J ty9 rfl) ?_
      refine mvr J rfl (sq_ev rfl (ev_idxS Tryz.underlying9 J J rfl (by omega)) ?_)
      refine mvr J rfl (sq_ev rfl (ev_eql J J) ?_)
      refine sq_nil ?_
      refine aw_cond J (fun c_30 => ?_) (fun c_30 => ?_)
      · skip
        have c_30' := c_30
        try simp only [qq] at c_30'
        have eR : cntR ch l[m] (k + 1) = cntR ch l[m] k + 1 := by rw [cntR_succ hkL, if_pos (UInt8.toNat_inj.1 (by omega))]
        refine aw_region (mvr J rfl (sq_ev rfl (ev_add J J (wr (by omega) (by omega))) ?_))
        refine asr J rfl (sq_nil (aw_region (mvr J rfl (sq_ev rfl (ev_add J J (wr (by omega) (by omega))) ?_))))
        refine asr J rfl (sq_nil ?_)
        exact ⟨⟨k + 1, by omega⟩, by simp only; omega, Sub.slots ⟨(by exact less_int (by rw [eR]; omega)), J, J, J, J, trivial⟩⟩
      · skip
        have c_30' := c_30
        try simp only [qq] at c_30'
        have eR : cntR ch l[m] (k + 1) = cntR ch l[m] k + 0 := by rw [cntR_succ hkL, if_neg (fun h => c_30' (by rw [h]))]
        refine aw_skip (aw_region (mvr J rfl (sq_ev rfl (ev_add J J (wr (by omega) (by omega))) ?_)))
        refine asr J rfl (sq_nil ?_)
        exact ⟨⟨k + 1, by omega⟩, by simp only; omega, Sub.slots ⟨(by exact less_int (by rw [eR]; omega)), J, J, J, J, trivial⟩⟩
    · skip
      have c_20' := c_20
      try simp only [qq] at c_20'
      obtain rfl : k = l[m].length := by omega
      have eC : cnt ch (l.take m) + cntR ch l[m] l[m].length = cnt ch (l.take (m + 1)) := by rw [cntR_all, cnt_take hmL]
      refine aw_exit (aw_region (mvr J rfl (sq_ev rfl (ev_add J J (wr (by omega) (by omega))) ?_)))
      refine asr J rfl (sq_nil ?_)
      exact ⟨⟨m + 1, by omega⟩, by simp only; omega, Sub.slots ⟨(by exact less_int eC), J, J, J, trivial⟩⟩
  · skip
    have c_11' := c_11
    try simp only [qq] at c_11'
    obtain rfl : m = l.length := by omega
    refine aw_exit (aw_seq (aw_region (mvr J rfl (asr J rfl (sq_nil (aw_ret ?_))))))
    exact retQ_pure (v := .raw _) rfl rfl (Less.eq (by rw [List.take_length]))
theorem ropposed_pure (a b : UInt8) : APure Tryz.prog 72 [C a, C b] (B (opp a b)) := by
 refine apure_of (rs := [.tmp 4]) Tryz.func72 rfl rfl (Nat.le_of_ble_eq_true rfl) (by simp [AV.pureL, AV.pureB, AV.pureE, pureE_map]) (by first | rfl | (simp [AV.pureL, AV.pureB, AV.pureE, pureE_map])) fun e0 he0 => ?_
 refine aw_seq (aw_region (asr J rfl (sq_nil (aw_seq (aw_region (mvr J rfl (sq_ev rfl (ev_eql J J) ?_)))))))
 refine mvr J rfl ?_
 refine sq_split 7 J (fun g1_2 => ?_) (fun g1_2 => ?_)
 ·
  have g1_2' := g1_2
  try simp only [qq] at g1_2'
  refine sq_yes rfl rfl (less_b g1_2) rfl (ev_mv (v := .raw _) J) ?_
  refine sq_yes rfl rfl (less_b g1_2) rfl (ev_eql J J) ?_
  refine sq_ev rfl (ev_pickT (v := .raw _) (less_b g1_2) J) ?_
  refine mvr J rfl ?_
  refine sq_split 11 J (fun g1_6 => ?_) (fun g1_6 => ?_)
  ·
   have g1_6' := g1_6
   try simp only [qq] at g1_6'
   refine sq_no rfl rfl (less_b g1_6) rfl rfl ?_
   refine sq_no rfl rfl (less_b g1_6) rfl rfl ?_
   refine sq_no rfl rfl (less_b g1_6) rfl rfl ?_
   refine sq_no rfl rfl J rfl rfl (sq_no rfl rfl J rfl rfl (sq_no rfl rfl (less_b g1_6) rfl rfl ?_))
   refine sq_ev rfl (ev_pickT (v := .raw _) (less_b g1_6) J) ?_
   refine asr J rfl (sq_nil (aw_ret ?_))
   exact retQ_pure (v := .raw _) rfl rfl (Less.eq (by unfold opp; simp only [dec35, dec46] at *; simp [*]))
  have g1_6' := g1_6
  try simp only [qq] at g1_6'
  refine sq_yes rfl rfl (less_b g1_6) rfl (ev_mv (v := .raw _) J) ?_
  refine sq_yes rfl rfl (less_b g1_6) rfl (ev_eql J J) ?_
  refine sq_yes rfl rfl (less_b g1_6) rfl (ev_mv (v := .raw _) J) ?_
  refine sq_split 14 J (fun g1_9 => ?_) (fun g1_9 => ?_)
  ·
   have g1_9' := g1_9
   try simp only [qq] at g1_9'
   refine sq_yes rfl rfl (less_b g1_9) rfl (ev_mv (v := .raw _) J) ?_
   refine sq_yes rfl rfl (less_b g1_9) rfl (ev_eql J J) ?_
   refine sq_yes rfl rfl (less_b g1_6) rfl (ev_pickT (v := .raw _) (less_b g1_9) J) ?_
   refine sq_ev rfl (ev_pickF (v := .raw _) (less_b g1_6) J) ?_
   refine asr J rfl (sq_nil (aw_ret ?_))
   exact retQ_pure (v := .raw _) rfl rfl (Less.eq (by unfold opp; simp only [dec35, dec46] at *; simp [*]))
  have g1_9' := g1_9
  try simp only [qq] at g1_9'
  refine sq_no rfl rfl (less_b g1_9) rfl rfl ?_
  refine sq_no rfl rfl (less_b g1_9) rfl rfl ?_
  refine sq_yes rfl rfl (less_b g1_6) rfl (ev_pickF (v := .raw _) (less_b g1_9) J) ?_
  refine sq_ev rfl (ev_pickF (v := .raw _) (less_b g1_6) J) ?_
  refine asr J rfl (sq_nil (aw_ret ?_))
  exact retQ_pure (v := .raw _) rfl rfl (Less.eq (by unfold opp; simp only [dec35, dec46] at *; simp [*]))
 have g1_2' := g1_2
 try simp only [qq] at g1_2'
 refine sq_no rfl rfl (less_b g1_2) rfl rfl ?_
 refine sq_no rfl rfl (less_b g1_2) rfl rfl ?_
 refine sq_ev rfl (ev_pickF (v := .raw _) (less_b g1_2) J) ?_
 refine mvr J rfl (ymr rfl rfl J rfl J (sq_yes rfl rfl J rfl (ev_eql J J) ?_))
 refine ymr rfl rfl J rfl J ?_
 refine sq_split 14 J (fun g1_9 => ?_) (fun g1_9 => ?_)
 ·
  have g1_9' := g1_9
  try simp only [qq] at g1_9'
  refine sq_yes rfl rfl (less_b g1_9) rfl (ev_mv (v := .raw _) J) ?_
  refine sq_yes rfl rfl (less_b g1_9) rfl (ev_eql J J) ?_
  refine sq_yes rfl rfl J rfl (ev_pickT (v := .raw _) (less_b g1_9) J) ?_
  refine pf rfl J J (asr J rfl (sq_nil (aw_ret ?_)))
  exact retQ_pure (v := .raw _) rfl rfl (Less.eq (by unfold opp; simp only [dec35, dec46] at *; simp [*]))
 have g1_9' := g1_9
 try simp only [qq] at g1_9'
 refine sq_no rfl rfl (less_b g1_9) rfl rfl ?_
 refine sq_no rfl rfl (less_b g1_9) rfl rfl ?_
 refine sq_yes rfl rfl J rfl (ev_pickF (v := .raw _) (less_b g1_9) J) ?_
 refine pf rfl J J (asr J rfl (sq_nil (aw_ret ?_)))
 exact retQ_pure (v := .raw _) rfl rfl (Less.eq (by unfold opp; simp only [dec35, dec46] at *; simp [*]))
theorem ragree_pure {a b : List (List UInt8)} (hf : Fit a b) : APure Tryz.prog 50 [strs a, strs b] (B (agree a b)) := by
 refine apure_of (rs := [.tmp 4]) Tryz.func50 rfl rfl (Nat.le_of_ble_eq_true rfl) (by simp [AV.pureL, AV.pureB, AV.pureE, pureE_map]) (by first | rfl | (simp [AV.pureL, AV.pureB, AV.pureE, pureE_map])) fun e0 he0 => ?_
 refine aw_seq (aw_region (asr J rfl ?_))
 refine sq_nil (aw_seq (aw_seq (aw_region (asr J rfl (sq_nil (aw_block ?_))))))
 refine aw_loopk (ι := { m : Nat // m ≤ a.length ∧ ∀ i, i < m → agRow a b i }) [0, 1] (fun g => [(5, I g.1)]) (fun H g => H) (fun g => a.length - g.1) (⟨0, Nat.zero_le _, by omega⟩) ⟨J, J, J, trivial⟩ rfl ?_
 rintro ⟨m, hm, hok⟩
 dsimp only [keepS, St.put, sget, slotsOf, nn1, nn2, nn3, nn4, nn5, nn6, Nat.reduceBEq, Nat.reduceAdd, nn7, nn8]
 have h1 := hf.len
 have h2 := hf.many
 refine aw_seq (aw_seq (aw_region (mvr J rfl (mvs rfl J (sq_ev rfl (ev_len_map sl24 J) ?_)))))
 refine sq_ev rfl (ev_lss J J) ?_
 refine sq_nil ?_
 refine aw_cond J (fun c_10 => ?_) (fun c_10 => ?_)
 ·
  have c_10' := c_10
  try simp only [qq] at c_10'
  have hma : m < a.length := by omega
  have h3 := hf.row m hma (by omega)
  have h4 := hf.wide m (by omega)
  refine aw_skip (aw_seq (aw_block (aw_seq (aw_region (asr J rfl (sq_nil (aw_block ?_)))))))
  refine aw_loopk (ι := { k : Nat // k ≤ a[m].length ∧ ∀ i, i < k → (p3 : i < a[m].length) → (p4 : i < b[m].length) → opp a[m][i] b[m][i] = false }) [0, 1, 5] (fun g => [(6, I g.1)]) (fun H g => H) (fun g => a[m].length - g.1) (⟨0, Nat.zero_le _, by omega⟩) ⟨J, J, J, J, trivial⟩ rfl ?_
  rintro ⟨k, hk, hin⟩
  dsimp only [keepS, St.put, sget, slotsOf, nn1, nn2, nn3, nn4, nn5, nn6, Nat.reduceBEq, Nat.reduceAdd, nn7, nn8]
  refine aw_seq (aw_seq (aw_region (mvr J rfl (mvs rfl J (mvr J rfl (sq_ev rfl (ev_index_map sl24 J J rfl (by omega)) ?_))))))
  refine sq_ev rfl (ev_load_i J ty9 rfl) ?_
  refine sq_ev rfl (ev_lenS Tryz.underlying9 J) ?_
  refine sq_ev rfl (ev_lss J J) ?_
  refine sq_nil ?_
  refine aw_cond J (fun c_19 => ?_) (fun c_19 => ?_)
  ·
   have c_19' := c_19
   try simp only [qq] at c_19'
   have hkL : k < a[m].length := by omega
   refine aw_skip (aw_seq (aw_block (aw_seq ?_)))
   refine aw_draw 13 mo (by kernel_rfl) ?_
   refine dr_ev rfl (ev_mv (v := .sl _ _) J) ?_
   refine dr_ev rfl (ev_mv (v := .raw _) J) ?_
   refine dr_ev rfl (ev_index_map sl24 J J rfl (by omega)) ?_
   refine dr_ev rfl (ev_load_i J ty9 rfl) ?_
   refine dr_ev rfl (ev_mv (v := .raw _) J) ?_
   refine dr_ev rfl (ev_idxS Tryz.underlying9 J J rfl (by omega)) ?_
   refine dr_ev rfl (ev_mv (v := .sl _ _) J) ?_
   refine dr_ev rfl (ev_mv (v := .raw _) J) ?_
   refine dr_ev rfl (ev_index_map sl24 J J rfl (by omega)) ?_
   refine dr_ev rfl (ev_load_i J ty9 rfl) ?_
   refine dr_ev rfl (ev_mv (v := .raw _) J) ?_
   refine dr_ev rfl (ev_idxS Tryz.underlying9 J J rfl (by omega)) ?_
   refine dr_ev rfl (ev_call en72 J (ropposed_pure _ _) ⟨J, J, trivial⟩) ?_
   refine dr_end (sq_nil ?_)
   refine aw_cond J (fun c_34 => ?_) (fun c_34 => ?_)
   ·
    have c_34' := c_34
    try simp only [qq] at c_34'
    refine aw_seq (aw_region (asr J rfl (sq_nil (aw_ret ?_))))
    exact retQ_pure (v := .raw _) rfl rfl (Less.eq (by rw [agree_no (m := m) (k := k) hma (by omega) (by omega) (by omega) (by simpa using c_34)]))
   have c_34' := c_34
   try simp only [qq] at c_34'
   refine aw_skip (aw_region (mvr J rfl (sq_ev rfl (ev_add J J (wr (by omega) (by omega))) ?_)))
   refine asr J rfl (sq_nil ?_)
   exact ⟨⟨k + 1, by omega, fun i hi p3 p4 => (by by_cases e : i = k; (subst e; simpa using c_34); exact hin i (by omega) p3 p4)⟩, by simp only; omega, Sub.slots ⟨J, J, J, J, trivial⟩⟩
  have c_19' := c_19
  try simp only [qq] at c_19'
  refine aw_exit (aw_region (mvr J rfl (sq_ev rfl (ev_add J J (wr (by omega) (by omega))) ?_)))
  refine asr J rfl (sq_nil ?_)
  have hrow : agRow a b m := fun i p1 p2 p3 p4 => hin i (by omega) p3 p4
  exact ⟨⟨m + 1, by omega, fun i hi => (by by_cases e : i = m; (subst e; exact hrow); exact hok i (by omega))⟩, by simp only; omega, Sub.slots ⟨J, J, J, trivial⟩⟩
 have c_10' := c_10
 try simp only [qq] at c_10'
 refine aw_exit (aw_seq (aw_region (asr J rfl (sq_nil (aw_ret ?_)))))
 exact retQ_pure (v := .raw _) rfl rfl (Less.eq (by rw [agree_yes fun i => (by by_cases e : i < a.length; exact hok i (by omega); exact fun k p1 => absurd p1 e)]))
theorem whole_pure (s : Sg) (c : List (List UInt8)) (hc : shp c) : APure Tryz.prog 29 [stA s, strs c] (B (wholeB s c)) := by
 refine apure_of (rs := [.tmp 4]) Tryz.func29 rfl rfl (Nat.le_of_ble_eq_true rfl) (by simp [AV.pureL, AV.pureB, AV.pureE, pureE_map]) (by first | rfl | (simp [AV.pureL, AV.pureB, AV.pureE, pureE_map])) fun e0 he0 => ?_
 refine aw_seq (aw_region (sq_box rfl J rfl (asr J rfl (sq_nil (aw_seq (aw_region (sq_ev rfl (ev_load_agg J rfl ty23 rfl) ?_)))))))
 refine mvs rfl J (sq_ev rfl (ev_call en37 J (rsight_pure s c hc) ⟨J, J, trivial⟩) ?_)
 refine mvr J rfl ?_
 refine sq_split 8 J (fun g1_3 => ?_) (fun g1_3 => ?_)
 ·
  have g1_3' := g1_3
  try simp only [qq] at g1_3'
  refine sq_yes rfl rfl (less_b g1_3) rfl (ev_mv (v := .sl _ _) J) ?_
  refine sq_yes rfl rfl (less_b g1_3) rfl (ev_call en41 J (rcount_pure c 63 hc.1 hc.2) ⟨J, J, trivial⟩) ?_
  refine sq_yes rfl rfl (less_b g1_3) rfl (ev_eql J J) ?_
  refine sq_ev rfl (ev_pickT (v := .raw _) (less_b g1_3) J) ?_
  refine asr J rfl (sq_nil (aw_ret ?_))
  exact retQ_pure (v := .raw _) rfl rfl (Less.eq (by unfold wholeB; simp [*]))
 have g1_3' := g1_3
 try simp only [qq] at g1_3'
 refine sq_no rfl rfl (less_b g1_3) rfl rfl ?_
 refine sq_no rfl rfl (less_b g1_3) rfl rfl ?_
 refine sq_no rfl rfl (less_b g1_3) rfl rfl ?_
 refine sq_ev rfl (ev_pickF (v := .raw _) (less_b g1_3) J) ?_
 refine asr J rfl (sq_nil (aw_ret ?_))
 exact retQ_pure (v := .raw _) rfl rfl (Less.eq (by unfold wholeB; simp [*]))
theorem reading_pure (l : List Fg) (r : Rc) (f : Int) (p : Pc) : APure Tryz.prog 49 [figs l, rcA r, .agg [I f, I p.near, I p.x, I p.y]] (B (readB l.length r f p)) := by
 refine apure_of (rs := [.tmp 6]) Tryz.func49 rfl rfl (Nat.le_of_ble_eq_true rfl) (by simp [AV.pureL, AV.pureB, AV.pureE, pureE_map]) (by first | rfl | (simp [AV.pureL, AV.pureB, AV.pureE, pureE_map])) fun e0 he0 => ?_
 refine aw_seq (aw_region ?_)
 refine sq_box rfl J rfl (sq_box rfl J rfl (asr J rfl (sq_nil (aw_seq (aw_region (sq_ev rfl (ev_fieldAddr fo73_1 J) ?_))))))
 refine sq_ev rfl (ev_load_agg J rfl ty28 rfl) ?_
 refine sq_alloc rfl z28 ?_
 refine sq_store rfl J J rfl rfl ty28 rfl rfl ?_
 refine sq_nil (aw_seq (aw_region (sq_ev rfl (ev_fieldAddr fo73_0 J) ?_)))
 refine sq_ev rfl (ev_load J rfl ty3 rfl) ?_
 refine sq_ev rfl (ev_geq J J) ?_
 refine mvr J rfl ?_
 refine sq_split 13 J (fun g2_3 => ?_) (fun g2_3 => ?_)
 ·
  have g2_3' := g2_3
  try simp only [qq] at g2_3'
  refine sq_yes rfl rfl (less_b g2_3) rfl (ev_fieldAddr fo73_0 J) ?_
  refine sq_yes rfl rfl (less_b g2_3) rfl (ev_load J rfl ty3 rfl) ?_
  refine sq_yes rfl rfl (less_b g2_3) rfl (ev_mv (v := .sl _ _) J) ?_
  refine sq_yes rfl rfl (less_b g2_3) rfl (ev_len_map sl45 J) ?_
  refine sq_yes rfl rfl (less_b g2_3) rfl (ev_lss J J) ?_
  refine sq_ev rfl (ev_pickT (v := .raw _) (less_b g2_3) J) ?_
  refine mvr J rfl ?_
  refine sq_split 20 J (fun g2_10 => ?_) (fun g2_10 => ?_)
  ·
   have g2_10' := g2_10
   try simp only [qq] at g2_10'
   refine sq_yes rfl rfl (less_b g2_10) rfl (ev_fieldAddr fo28_0 J) ?_
   refine sq_yes rfl rfl (less_b g2_10) rfl (ev_load J rfl ty3 rfl) ?_
   refine sq_yes rfl rfl (less_b g2_10) rfl (ev_fieldAddr fo49_0 J) ?_
   refine sq_yes rfl rfl (less_b g2_10) rfl (ev_fieldAddr fo47_0 J) ?_
   refine sq_yes rfl rfl (less_b g2_10) rfl (ev_load J rfl ty3 rfl) ?_
   refine sq_yes rfl rfl (less_b g2_10) rfl (ev_geq J J) ?_
   refine sq_ev rfl (ev_pickT (v := .raw _) (less_b g2_10) J) ?_
   refine mvr J rfl ?_
   refine sq_split 28 J (fun g2_18 => ?_) (fun g2_18 => ?_)
   ·
    have g2_18' := g2_18
    try simp only [qq] at g2_18'
    refine sq_yes rfl rfl (less_b g2_18) rfl (ev_fieldAddr fo28_0 J) ?_
    refine sq_yes rfl rfl (less_b g2_18) rfl (ev_load J rfl ty3 rfl) ?_
    refine sq_yes rfl rfl (less_b g2_18) rfl (ev_fieldAddr fo49_0 J) ?_
    refine sq_yes rfl rfl (less_b g2_18) rfl (ev_fieldAddr fo47_1 J) ?_
    refine sq_yes rfl rfl (less_b g2_18) rfl (ev_load J rfl ty3 rfl) ?_
    refine sq_yes rfl rfl (less_b g2_18) rfl (ev_leq J J) ?_
    refine sq_ev rfl (ev_pickT (v := .raw _) (less_b g2_18) J) ?_
    refine mvr J rfl ?_
    refine sq_split 36 J (fun g2_26 => ?_) (fun g2_26 => ?_)
    ·
     have g2_26' := g2_26
     try simp only [qq] at g2_26'
     refine sq_yes rfl rfl (less_b g2_26) rfl (ev_fieldAddr fo28_1 J) ?_
     refine sq_yes rfl rfl (less_b g2_26) rfl (ev_load J rfl ty3 rfl) ?_
     refine sq_yes rfl rfl (less_b g2_26) rfl (ev_fieldAddr fo49_1 J) ?_
     refine sq_yes rfl rfl (less_b g2_26) rfl (ev_fieldAddr fo47_0 J) ?_
     refine sq_yes rfl rfl (less_b g2_26) rfl (ev_load J rfl ty3 rfl) ?_
     refine sq_yes rfl rfl (less_b g2_26) rfl (ev_geq J J) ?_
     refine sq_ev rfl (ev_pickT (v := .raw _) (less_b g2_26) J) ?_
     refine mvr J rfl ?_
     refine sq_split 44 J (fun g2_34 => ?_) (fun g2_34 => ?_)
     ·
      have g2_34' := g2_34
      try simp only [qq] at g2_34'
      refine sq_yes rfl rfl (less_b g2_34) rfl (ev_fieldAddr fo28_1 J) ?_
      refine sq_yes rfl rfl (less_b g2_34) rfl (ev_load J rfl ty3 rfl) ?_
      refine sq_yes rfl rfl (less_b g2_34) rfl (ev_fieldAddr fo49_1 J) ?_
      refine sq_yes rfl rfl (less_b g2_34) rfl (ev_fieldAddr fo47_1 J) ?_
      refine sq_yes rfl rfl (less_b g2_34) rfl (ev_load J rfl ty3 rfl) ?_
      refine sq_yes rfl rfl (less_b g2_34) rfl (ev_leq J J) ?_
      refine sq_ev rfl (ev_pickT (v := .raw _) (less_b g2_34) J) ?_
      refine mvr J rfl ?_
      refine sq_split 52 J (fun g2_42 => ?_) (fun g2_42 => ?_)
      ·
       have g2_42' := g2_42
       try simp only [qq] at g2_42'
       refine sq_yes rfl rfl (less_b g2_42) rfl (ev_fieldAddr fo28_2 J) ?_
       refine sq_yes rfl rfl (less_b g2_42) rfl (ev_load J rfl ty3 rfl) ?_
       refine sq_yes rfl rfl (less_b g2_42) rfl (ev_fieldAddr fo49_2 J) ?_
       refine sq_yes rfl rfl (less_b g2_42) rfl (ev_load J rfl ty3 rfl) ?_
       refine sq_yes rfl rfl (less_b g2_42) rfl (ev_eql J J) ?_
       refine sq_ev rfl (ev_pickT (v := .raw _) (less_b g2_42) J) ?_
       refine asr J rfl (sq_nil (aw_ret ?_))
       exact retQ_pure (v := .raw _) rfl rfl (Less.eq (by unfold readB; simp [*]))
      have g2_42' := g2_42
      try simp only [qq] at g2_42'
      refine sq_no rfl rfl (less_b g2_42) rfl rfl ?_
      refine sq_no rfl rfl (less_b g2_42) rfl rfl ?_
      refine sq_no rfl rfl (less_b g2_42) rfl rfl ?_
      refine sq_no rfl rfl (less_b g2_42) rfl rfl ?_
      refine sq_no rfl rfl (less_b g2_42) rfl rfl ?_
      refine sq_ev rfl (ev_pickF (v := .raw _) (less_b g2_42) J) ?_
      refine asr J rfl (sq_nil (aw_ret ?_))
      exact retQ_pure (v := .raw _) rfl rfl (Less.eq (by unfold readB; simp [*]))
     have g2_34' := g2_34
     try simp only [qq] at g2_34'
     refine sq_no rfl rfl (less_b g2_34) rfl rfl ?_
     refine sq_no rfl rfl (less_b g2_34) rfl rfl ?_
     refine sq_no rfl rfl (less_b g2_34) rfl rfl ?_
     refine sq_no rfl rfl (less_b g2_34) rfl rfl ?_
     refine sq_no rfl rfl (less_b g2_34) rfl rfl ?_
     refine sq_no rfl rfl (less_b g2_34) rfl rfl ?_
     refine sq_ev rfl (ev_pickF (v := .raw _) (less_b g2_34) J) ?_
     refine mvr J rfl (sq_no rfl rfl J rfl rfl (sq_no rfl rfl J rfl rfl ?_))
     refine sq_no rfl rfl J rfl rfl (sq_no rfl rfl J rfl rfl (sq_no rfl rfl J rfl rfl (pf rfl J J (asr J rfl (sq_nil (aw_ret ?_))))))
     exact retQ_pure (v := .raw _) rfl rfl (Less.eq (by unfold readB; simp [*]))
    have g2_26' := g2_26
    try simp only [qq] at g2_26'
    refine sq_no rfl rfl (less_b g2_26) rfl rfl ?_
    refine sq_no rfl rfl (less_b g2_26) rfl rfl ?_
    refine sq_no rfl rfl (less_b g2_26) rfl rfl ?_
    refine sq_no rfl rfl (less_b g2_26) rfl rfl ?_
    refine sq_no rfl rfl (less_b g2_26) rfl rfl ?_
    refine sq_no rfl rfl (less_b g2_26) rfl rfl ?_
    refine sq_ev rfl (ev_pickF (v := .raw _) (less_b g2_26) J) ?_
    refine mvr J rfl (sq_no rfl rfl J rfl rfl (sq_no rfl rfl J rfl rfl (sq_no rfl rfl J rfl rfl ?_)))
    refine sq_no rfl rfl J rfl rfl (sq_no rfl rfl J rfl rfl (sq_no rfl rfl J rfl rfl (pf rfl J J (mvr J rfl (sq_no rfl rfl J rfl rfl (sq_no rfl rfl J rfl rfl ?_))))))
    refine sq_no rfl rfl J rfl rfl (sq_no rfl rfl J rfl rfl (sq_no rfl rfl J rfl rfl (pf rfl J J (asr J rfl (sq_nil (aw_ret ?_))))))
    exact retQ_pure (v := .raw _) rfl rfl (Less.eq (by unfold readB; simp [*]))
   have g2_18' := g2_18
   try simp only [qq] at g2_18'
   refine sq_no rfl rfl (less_b g2_18) rfl rfl ?_
   refine sq_no rfl rfl (less_b g2_18) rfl rfl ?_
   refine sq_no rfl rfl (less_b g2_18) rfl rfl ?_
   refine sq_no rfl rfl (less_b g2_18) rfl rfl ?_
   refine sq_no rfl rfl (less_b g2_18) rfl rfl ?_
   refine sq_no rfl rfl (less_b g2_18) rfl rfl ?_
   refine sq_ev rfl (ev_pickF (v := .raw _) (less_b g2_18) J) ?_
   refine mvr J rfl (sq_no rfl rfl J rfl rfl (sq_no rfl rfl J rfl rfl (sq_no rfl rfl J rfl rfl (sq_no rfl rfl J rfl rfl ?_))))
   refine sq_no rfl rfl J rfl rfl (sq_no rfl rfl J rfl rfl (pf rfl J J (mvr J rfl (sq_no rfl rfl J rfl rfl (sq_no rfl rfl J rfl rfl (sq_no rfl rfl J rfl rfl ?_))))))
   refine sq_no rfl rfl J rfl rfl (sq_no rfl rfl J rfl rfl (sq_no rfl rfl J rfl rfl (pf rfl J J (mvr J rfl (sq_no rfl rfl J rfl rfl (sq_no rfl rfl J rfl rfl ?_))))))
   refine sq_no rfl rfl J rfl rfl (sq_no rfl rfl J rfl rfl (sq_no rfl rfl J rfl rfl (pf rfl J J (asr J rfl (sq_nil (aw_ret ?_))))))
   exact retQ_pure (v := .raw _) rfl rfl (Less.eq (by unfold readB; simp [*]))
  have g2_10' := g2_10
  try simp only [qq] at g2_10'
  refine sq_no rfl rfl (less_b g2_10) rfl rfl ?_
  refine sq_no rfl rfl (less_b g2_10) rfl rfl ?_
  refine sq_no rfl rfl (less_b g2_10) rfl rfl ?_
  refine sq_no rfl rfl (less_b g2_10) rfl rfl ?_
  refine sq_no rfl rfl (less_b g2_10) rfl rfl ?_
  refine sq_no rfl rfl (less_b g2_10) rfl rfl ?_
  refine sq_ev rfl (ev_pickF (v := .raw _) (less_b g2_10) J) ?_
  refine mvr J rfl (sq_no rfl rfl J rfl rfl (sq_no rfl rfl J rfl rfl (sq_no rfl rfl J rfl rfl (sq_no rfl rfl J rfl rfl (sq_no rfl rfl J rfl rfl ?_)))))
  refine sq_no rfl rfl J rfl rfl (pf rfl J J (mvr J rfl (sq_no rfl rfl J rfl rfl (sq_no rfl rfl J rfl rfl (sq_no rfl rfl J rfl rfl (sq_no rfl rfl J rfl rfl ?_))))))
  refine sq_no rfl rfl J rfl rfl (sq_no rfl rfl J rfl rfl (pf rfl J J (mvr J rfl (sq_no rfl rfl J rfl rfl (sq_no rfl rfl J rfl rfl (sq_no rfl rfl J rfl rfl ?_))))))
  refine sq_no rfl rfl J rfl rfl (sq_no rfl rfl J rfl rfl (sq_no rfl rfl J rfl rfl (pf rfl J J (mvr J rfl (sq_no rfl rfl J rfl rfl (sq_no rfl rfl J rfl rfl ?_))))))
  refine sq_no rfl rfl J rfl rfl (sq_no rfl rfl J rfl rfl (sq_no rfl rfl J rfl rfl (pf rfl J J (asr J rfl (sq_nil (aw_ret ?_))))))
  exact retQ_pure (v := .raw _) rfl rfl (Less.eq (by unfold readB; simp [*]))
 have g2_3' := g2_3
 try simp only [qq] at g2_3'
 refine sq_no rfl rfl (less_b g2_3) rfl rfl ?_
 refine sq_no rfl rfl (less_b g2_3) rfl rfl ?_
 refine sq_no rfl rfl (less_b g2_3) rfl rfl ?_
 refine sq_no rfl rfl (less_b g2_3) rfl rfl ?_
 refine sq_no rfl rfl (less_b g2_3) rfl rfl ?_
 refine sq_ev rfl (ev_pickF (v := .raw _) (less_b g2_3) J) ?_
 refine mvr J rfl (sq_no rfl rfl J rfl rfl (sq_no rfl rfl J rfl rfl (sq_no rfl rfl J rfl rfl (sq_no rfl rfl J rfl rfl (sq_no rfl rfl J rfl rfl (sq_no rfl rfl J rfl rfl ?_))))))
 refine pf rfl J J (mvr J rfl (sq_no rfl rfl J rfl rfl (sq_no rfl rfl J rfl rfl (sq_no rfl rfl J rfl rfl (sq_no rfl rfl J rfl rfl (sq_no rfl rfl J rfl rfl ?_))))))
 refine sq_no rfl rfl J rfl rfl (pf rfl J J (mvr J rfl (sq_no rfl rfl J rfl rfl (sq_no rfl rfl J rfl rfl (sq_no rfl rfl J rfl rfl (sq_no rfl rfl J rfl rfl ?_))))))
 refine sq_no rfl rfl J rfl rfl (sq_no rfl rfl J rfl rfl (pf rfl J J (mvr J rfl (sq_no rfl rfl J rfl rfl (sq_no rfl rfl J rfl rfl (sq_no rfl rfl J rfl rfl ?_))))))
 refine sq_no rfl rfl J rfl rfl (sq_no rfl rfl J rfl rfl (sq_no rfl rfl J rfl rfl (pf rfl J J (mvr J rfl (sq_no rfl rfl J rfl rfl (sq_no rfl rfl J rfl rfl ?_))))))
 refine sq_no rfl rfl J rfl rfl (sq_no rfl rfl J rfl rfl (sq_no rfl rfl J rfl rfl (pf rfl J J (asr J rfl (sq_nil (aw_ret ?_))))))
 exact retQ_pure (v := .raw _) rfl rfl (Less.eq (by unfold readB; simp [*]))
theorem has_pure (l : List Int) (n : Int) (hl : l.length ≤ 1000000) : APure Tryz.prog 51 [ints l, I n] (B (decide (n ∈ l))) := by
 refine apure_of (rs := [.tmp 4]) Tryz.func51 rfl rfl (Nat.le_of_ble_eq_true rfl) (by simp [AV.pureL, AV.pureB, AV.pureE, pureE_map]) (by first | rfl | (simp [AV.pureL, AV.pureB, AV.pureE, pureE_map])) fun e0 he0 => ?_
 refine aw_seq (aw_region (asr J rfl ?_))
 refine sq_nil (aw_seq (aw_seq (aw_region (asr J rfl (sq_nil (aw_block ?_))))))
 refine aw_loopk (ι := { k : Nat // k ≤ l.length ∧ ∀ i, (h : i < l.length) → i < k → ¬ l[i] = n }) [0, 1] (fun g => [(5, I g.1)]) (fun H g => H) (fun g => l.length - g.1) (⟨0, Nat.zero_le _, by omega⟩) ⟨J, J, J, trivial⟩ rfl ?_
 rintro ⟨k, hk, hok⟩
 dsimp only [keepS, St.put, sget, slotsOf, nn1, nn2, nn3, nn4, nn5, nn6, Nat.reduceBEq, Nat.reduceAdd, nn7, nn8]
 refine aw_seq (aw_seq (aw_region (mvr J rfl (mvs rfl J (sq_ev rfl (ev_len_map sl64 J) ?_)))))
 refine sq_ev rfl (ev_lss J J) ?_
 refine sq_nil ?_
 refine aw_cond J (fun c_9 => ?_) (fun c_9 => ?_)
 ·
  have c_9' := c_9
  try simp only [qq] at c_9'
  have hkL : k < l.length := by omega
  refine aw_skip (aw_seq (aw_block (aw_seq (aw_region (mvs rfl J (mvr J rfl (sq_ev rfl (ev_index_map sl64 J J rfl (by omega)) ?_)))))))
  refine sq_ev rfl (ev_load_i J ty3 rfl) ?_
  refine mvr J rfl (sq_ev rfl (ev_eql J J) ?_)
  refine sq_nil ?_
  refine aw_cond J (fun c_17 => ?_) (fun c_17 => ?_)
  ·
   have c_17' := c_17
   try simp only [qq] at c_17'
   refine aw_seq (aw_region (asr J rfl (sq_nil (aw_ret ?_))))
   exact retQ_pure (v := .raw _) rfl rfl (Less.eq (by rw [decide_eq_true (c_17' ▸ List.getElem_mem hkL)]))
  have c_17' := c_17
  try simp only [qq] at c_17'
  refine aw_skip (aw_region (mvr J rfl (sq_ev rfl (ev_add J J (wr (by omega) (by omega))) ?_)))
  refine asr J rfl (sq_nil ?_)
  exact ⟨⟨k + 1, by omega, fun i h hi => (by by_cases e : i = k; (subst e; exact c_17'); exact hok i h (by omega))⟩, by simp only; omega, Sub.slots ⟨J, J, J, trivial⟩⟩
 have c_9' := c_9
 try simp only [qq] at c_9'
 refine aw_exit (aw_seq (aw_region (asr J rfl (sq_nil (aw_ret ?_)))))
 exact retQ_pure (v := .raw _) rfl rfl (Less.eq (by rw [decide_eq_false (fun h => by obtain ⟨i, hi, e⟩ := List.getElem_of_mem h; exact hok i hi (by omega) e)]))
end Go.Proofs.YtmbknoaneglilaaGreatDoor
namespace Go.Proofs.YtmbknoaneglilaaGreatDoor
open Go Go.Ab Ni Ol
theorem en27 : Ent Tryz.prog 27 := Ent.of Tryz.func27 (by kernel_rfl) rfl
set_option maxRecDepth 20000 in
theorem told_none {x : Sn} {f1 f2 : Nat} {p1 p2 : Pc} {t u v : List Int} {c d : List (List UInt8)} (hrb : -1000 ≤ x.r.nl ∧ x.r.nl ≤ x.r.nh ∧ x.r.nh ≤ 1000) (hf1 : f1 < x.l.length) (hf2 : f2 < x.l.length) (hlt : f1 < f2)
    (h34 : APure Tryz.prog 34 [figs x.l] (B true)) (h36 : APure Tryz.prog 36 [stA x.s, figs x.l, rcA x.r, B true] (I 0))
    (h49 : APure Tryz.prog 49 [figs x.l, rcA x.r, .agg [I f1, I p1.near, I p1.x, I p1.y]] (B true)) (h49' : APure Tryz.prog 49 [figs x.l, rcA x.r, .agg [I f2, I p2.near, I p2.x, I p2.y]] (B true))
    (h44 : APure Tryz.prog 44 [stA x.s, figs x.l, rcA x.r] (.tup [I 0, I 0, I 5])) (h45 : APure Tryz.prog 45 [stA x.s, figs x.l, rcA x.r, I f1] (.tup [ints t, I 0])) (h45' : APure Tryz.prog 45 [stA x.s, figs x.l, rcA x.r, I f2] (.tup [ints u, I 0]))
    (h28 : APure Tryz.prog 28 [stA x.s, fgA x.l[f1], pcA p1] (.tup [strs c, I 0])) (h28' : APure Tryz.prog 28 [stA x.s, fgA x.l[f2], pcA p2] (.tup [strs d, I 0]))
    (k44 : APure Tryz.prog 44 [stA x.s, figs (x.l.take 1), rcA x.r] (.tup [I 0, I 0, I 5])) (k45 : APure Tryz.prog 45 [stA x.s, figs (x.l.take 1), rcA x.r, I 0] (.tup [ints v, I 0])) (hv : (v.length : Int) = x.r.nh - x.r.nl + 1)
    (h29 : APure Tryz.prog 29 [stA x.s, strs c] (B true)) (h29' : APure Tryz.prog 29 [stA x.s, strs d] (B true)) (ht : (t.length : Int) = x.r.nh - x.r.nl + 1) (hu : (u.length : Int) = x.r.nh - x.r.nl + 1) (h50 : APure Tryz.prog 50 [strs c, strs d] (B false)) : APure Tryz.prog 8 [stA x.s, figs x.l, rcA x.r, .agg [I f1, I p1.near, I p1.x, I p1.y], .agg [I f2, I p2.near, I p2.x, I p2.y]] (B true) := by
  refine apure_of (rs := [.tmp 10]) Tryz.func8 rfl rfl (Nat.le_of_ble_eq_true rfl) (by simp [AV.pureL, AV.pureB, AV.pureE, pureE_map]) (by first | rfl | (simp [AV.pureL, AV.pureB, AV.pureE, pureE_map])) fun e0 he0 => ?_
  refine aw_seq (aw_region (sq_box rfl J rfl (sq_box rfl J rfl (sq_box rfl J rfl (sq_box rfl J rfl ?_)))))
  refine asr J rfl (sq_nil (aw_seq (aw_seq (aw_region (mvs rfl J (sq_ev rfl (ev_call en34 J (h34) ⟨J, trivial⟩) ?_))))))
  refine sq_ev rfl (ev_not J) ?_
  refine mvr J rfl (sq_yes rfl rfl J rfl (ev_load_agg J rfl ty23 rfl) ?_)
  refine ysl rfl rfl J rfl J ?_
  refine sq_yes rfl rfl J rfl (ev_load_agg J rfl ty49 rfl) ?_
  refine sq_yes rfl rfl J rfl (ev_call en36 J (h36) ⟨J, J, J, J, trivial⟩) ?_
  refine sq_yes rfl rfl J rfl (ev_neq J J) ?_
  refine pf rfl J J (mvr J rfl ?_)
  refine ysl rfl rfl J rfl J ?_
  refine sq_yes rfl rfl J rfl (ev_load_agg J rfl ty49 rfl) ?_
  refine sq_yes rfl rfl J rfl (ev_load_agg J rfl ty73 rfl) ?_
  refine sq_yes rfl rfl J rfl (ev_call en49 J (h49) ⟨J, J, J, trivial⟩) ?_
  refine sq_yes rfl rfl J rfl (ev_not J) ?_
  refine pf rfl J J (mvr J rfl ?_)
  refine ysl rfl rfl J rfl J ?_
  refine sq_yes rfl rfl J rfl (ev_load_agg J rfl ty49 rfl) ?_
  refine sq_yes rfl rfl J rfl (ev_load_agg J rfl ty73 rfl) ?_
  refine sq_yes rfl rfl J rfl (ev_call en49 J (h49') ⟨J, J, J, trivial⟩) ?_
  refine sq_yes rfl rfl J rfl (ev_not J) ?_
  refine pf rfl J J (mvr J rfl (sq_yes rfl rfl J rfl (ev_fieldAddr fo73_0 J) ?_))
  refine sq_yes rfl rfl J rfl (ev_load J rfl ty3 rfl) ?_
  refine sq_yes rfl rfl J rfl (ev_fieldAddr fo73_0 J) ?_
  refine sq_yes rfl rfl J rfl (ev_load J rfl ty3 rfl) ?_
  refine sq_yes rfl rfl J rfl (ev_geq J J) ?_
  refine pf rfl J J (sq_nil ?_)
  refine aw_cond J (fun c_58 => ?_) (fun c_58 => ?_)
  · skip
    have c_58' := c_58
    try simp only [qq] at c_58'
    first | exact absurd c_58 (by decide) | (exfalso; simp at c_58; done) | (exfalso; simp at c_58; omega) | (exfalso; simp_all; done) | (exfalso; simp_all; omega)
  · skip
    have c_58' := c_58
    try simp only [qq] at c_58'
    refine aw_skip (aw_seq (aw_region (sq_ev rfl (ev_load_agg J rfl ty23 rfl) ?_)))
    refine mvs rfl J (sq_ev rfl (ev_load_agg J rfl ty49 rfl) ?_)
    refine sq_ev rfl (ev_call en44 J (h44) ⟨J, J, J, trivial⟩) ?_
    refine sq_ev rfl (ev_mv (v := .tup _) J) ?_
    refine xtr rfl J rfl (xtr rfl J rfl (xtr rfl J rfl ?_))
    refine asr J rfl (asr J rfl (asr J rfl (sq_nil (aw_seq (aw_region (sq_ev rfl (ev_load_agg J rfl ty23 rfl) ?_))))))
    refine mvs rfl J (sq_ev rfl (ev_load_agg J rfl ty49 rfl) ?_)
    refine sq_ev rfl (ev_fieldAddr fo73_0 J) ?_
    refine sq_ev rfl (ev_load J rfl ty3 rfl) ?_
    refine sq_ev rfl (ev_call en45 J (h45) ⟨J, J, J, J, trivial⟩) ?_
    refine sq_ev rfl (ev_mv (v := .tup _) J) ?_
    refine xtr rfl J rfl ?_
    refine xtr rfl J rfl (ass rfl J (asr J rfl (sq_nil (aw_seq (aw_region (sq_ev rfl (ev_load_agg J rfl ty23 rfl) ?_))))))
    refine mvs rfl J (sq_ev rfl (ev_load_agg J rfl ty49 rfl) ?_)
    refine sq_ev rfl (ev_fieldAddr fo73_0 J) ?_
    refine sq_ev rfl (ev_load J rfl ty3 rfl) ?_
    refine sq_ev rfl (ev_call en45 J (h45') ⟨J, J, J, J, trivial⟩) ?_
    refine sq_ev rfl (ev_mv (v := .tup _) J) ?_
    refine xtr rfl J rfl (xtr rfl J rfl (ass rfl J (asr J rfl (sq_nil (aw_seq ?_)))))
    refine aw_draw 14 mo (by kernel_rfl) ?_
    refine dr_ev rfl (ev_load_agg J rfl ty23 rfl) ?_
    refine dr_ev rfl (ev_mv (v := .sl _ _) J) ?_
    refine dr_ev rfl (ev_fieldAddr fo73_0 J) ?_
    refine dr_ev rfl (ev_load J rfl ty3 rfl) ?_
    refine dr_ev rfl (ev_index_map (k := f1) sl45 J J rfl hf1) ?_
    refine dr_ev rfl (ev_load_agg_i J ty26 (by exact Nat.le_of_ble_eq_true rfl)) ?_
    refine dr_ev rfl (ev_fieldAddr fo73_1 J) ?_
    refine dr_ev rfl (ev_load_agg J rfl ty28 rfl) ?_
    refine dr_ev rfl (ev_call en28 J (h28) ⟨J, J, J, trivial⟩) ?_
    refine dr_ev rfl (ev_mv (v := .tup _) J) ?_
    refine dr_ev rfl (ev_extract J rfl) ?_
    refine dr_ev rfl (ev_extract J rfl) ?_
    refine dr_ev rfl (ev_as (v := .sl _ _) J) ?_
    refine dr_ev rfl (ev_as (v := .raw _) J) ?_
    refine dr_end (sq_nil (aw_seq ?_))
    refine aw_draw 14 mo (by kernel_rfl) ?_
    refine dr_ev rfl (ev_load_agg J rfl ty23 rfl) ?_
    refine dr_ev rfl (ev_mv (v := .sl _ _) J) ?_
    refine dr_ev rfl (ev_fieldAddr fo73_0 J) ?_
    refine dr_ev rfl (ev_load J rfl ty3 rfl) ?_
    refine dr_ev rfl (ev_index_map (k := f2) sl45 J J rfl hf2) ?_
    refine dr_ev rfl (ev_load_agg_i J ty26 (by exact Nat.le_of_ble_eq_true rfl)) ?_
    refine dr_ev rfl (ev_fieldAddr fo73_1 J) ?_
    refine dr_ev rfl (ev_load_agg J rfl ty28 rfl) ?_
    refine dr_ev rfl (ev_call en28 J (h28') ⟨J, J, J, trivial⟩) ?_
    refine dr_ev rfl (ev_mv (v := .tup _) J) ?_
    refine dr_ev rfl (ev_extract J rfl) ?_
    refine dr_ev rfl (ev_extract J rfl) ?_
    refine dr_ev rfl (ev_as (v := .sl _ _) J) ?_
    refine dr_ev rfl (ev_as (v := .raw _) J) ?_
    refine dr_end (sq_nil (aw_seq ?_))
    refine aw_draw 12 mo (by kernel_rfl) ?_
    refine dr_ev rfl (ev_load_agg J rfl ty23 rfl) ?_
    refine dr_ev rfl (ev_mv (v := .sl _ _) J) ?_
    refine dr_ev rfl (ev_less (ev_slice (lo := 0) (hi := 1) sl45 J rfl J (by omega) (by simp; omega)) (Less.eq (b := figs (x.l.take 1)) (by simp [figs, List.map_take]))) ?_
    refine dr_ev rfl (ev_load_agg J rfl ty49 rfl) ?_
    refine dr_ev rfl (ev_call en44 J (k44) ⟨J, J, J, trivial⟩) ?_
    refine dr_ev rfl (ev_mv (v := .tup _) J) ?_
    refine dr_ev rfl (ev_extract J rfl) ?_
    refine dr_ev rfl (ev_extract J rfl) ?_
    refine dr_ev rfl (ev_extract J rfl) ?_
    refine dr_ev rfl (ev_as (v := .raw _) J) ?_
    refine dr_ev rfl (ev_as (v := .raw _) J) ?_
    refine dr_ev rfl (ev_as (v := .raw _) J) ?_
    refine dr_end (sq_nil (aw_seq ?_))
    refine aw_draw 10 mo (by kernel_rfl) ?_
    refine dr_ev rfl (ev_load_agg J rfl ty23 rfl) ?_
    refine dr_ev rfl (ev_mv (v := .sl _ _) J) ?_
    refine dr_ev rfl (ev_less (ev_slice (lo := 0) (hi := 1) sl45 J rfl J (by omega) (by simp; omega)) (Less.eq (b := figs (x.l.take 1)) (by simp [figs, List.map_take]))) ?_
    refine dr_ev rfl (ev_load_agg J rfl ty49 rfl) ?_
    refine dr_ev rfl (ev_call en45 J (k45) ⟨J, J, J, J, trivial⟩) ?_
    refine dr_ev rfl (ev_mv (v := .tup _) J) ?_
    refine dr_ev rfl (ev_extract J rfl) ?_
    refine dr_ev rfl (ev_extract J rfl) ?_
    refine dr_ev rfl (ev_as (v := .sl _ _) J) ?_
    refine dr_ev rfl (ev_as (v := .raw _) J) ?_
    refine dr_end (sq_nil (aw_seq (aw_region (sq_ev rfl (ev_fieldAddr fo49_0 J) ?_))))
    refine sq_ev rfl (ev_fieldAddr fo47_1 J) ?_
    refine sq_ev rfl (ev_load J rfl ty3 rfl) ?_
    refine sq_ev rfl (ev_fieldAddr fo49_0 J) ?_
    refine sq_ev rfl (ev_fieldAddr fo47_0 J) ?_
    refine sq_ev rfl (ev_load J rfl ty3 rfl) ?_
    refine sq_ev rfl (ev_sub J J (wr (by omega) (by omega))) ?_
    refine sq_ev rfl (ev_add J J (wr (by omega) (by omega))) ?_
    refine asr J rfl (sq_nil (aw_seq (aw_seq (aw_region (mvr J rfl (sq_ev rfl (ev_neq J J) ?_))))))
    refine mvr J rfl (ymr rfl rfl J rfl J (sq_yes rfl rfl J rfl (ev_neq J J) ?_))
    refine sq_ev rfl (ev_pickT (v := .raw _) J J) ?_
    refine mvr J rfl (ymr rfl rfl J rfl J (sq_yes rfl rfl J rfl (ev_neq J J) ?_))
    refine pf rfl J J (mvr J rfl (ymr rfl rfl J rfl J (sq_yes rfl rfl J rfl (ev_neq J J) ?_)))
    refine pf rfl J J (mvr J rfl (ymr rfl rfl J rfl J (sq_yes rfl rfl J rfl (ev_neq J J) ?_)))
    refine pf rfl J J (mvr J rfl (ymr rfl rfl J rfl J (sq_yes rfl rfl J rfl (ev_neq J J) ?_)))
    refine pf rfl J J (mvr J rfl (ymr rfl rfl J rfl J (sq_yes rfl rfl J rfl (ev_neq J J) ?_)))
    refine pf rfl J J (mvr J rfl (ymr rfl rfl J rfl J (sq_yes rfl rfl J rfl (ev_neq J J) ?_)))
    refine pf rfl J J (mvr J rfl ?_)
    refine ysl rfl rfl J rfl J ?_
    refine sq_yes rfl rfl J rfl (ev_len_map sl64 J) ?_
    refine ymr rfl rfl J rfl J (sq_yes rfl rfl J rfl (ev_neq J J) ?_)
    refine pf rfl J J (mvr J rfl ?_)
    refine sq_split 171 J (fun g11_36 => ?_) (fun g11_36 => ?_)
    · skip
      have g11_36' := g11_36
      try simp only [qq] at g11_36'
      first | exact absurd g11_36 (by decide) | (exfalso; simp at g11_36; done) | (exfalso; simp at g11_36; omega) | (exfalso; simp_all; done) | (exfalso; simp_all; omega)
    · skip
      have g11_36' := g11_36
      try simp only [qq] at g11_36'
      refine sq_yes rfl rfl (less_b g11_36) rfl (ev_load_agg J rfl ty23 rfl) ?_
      refine sq_yes rfl rfl (less_b g11_36) rfl (ev_mv (v := .sl _ _) J) ?_
      refine sq_yes rfl rfl (less_b g11_36) rfl (ev_call en29 J (h29) ⟨J, J, trivial⟩) ?_
      refine sq_yes rfl rfl (less_b g11_36) rfl (ev_not J) ?_
      refine sq_ev rfl (ev_pickF (v := .raw _) (less_b g11_36) J) ?_
      refine mvr J rfl ?_
      refine sq_split 177 J (fun g11_42 => ?_) (fun g11_42 => ?_)
      · skip
        have g11_42' := g11_42
        try simp only [qq] at g11_42'
        first | exact absurd g11_42 (by decide) | (exfalso; simp at g11_42; done) | (exfalso; simp at g11_42; omega) | (exfalso; simp_all; done) | (exfalso; simp_all; omega)
      · skip
        have g11_42' := g11_42
        try simp only [qq] at g11_42'
        refine sq_yes rfl rfl (less_b g11_42) rfl (ev_load_agg J rfl ty23 rfl) ?_
        refine sq_yes rfl rfl (less_b g11_42) rfl (ev_mv (v := .sl _ _) J) ?_
        refine sq_yes rfl rfl (less_b g11_42) rfl (ev_call en29 J (h29') ⟨J, J, trivial⟩) ?_
        refine sq_yes rfl rfl (less_b g11_42) rfl (ev_not J) ?_
        refine sq_ev rfl (ev_pickF (v := .raw _) (less_b g11_42) J) ?_
        refine sq_nil ?_
        refine aw_cond J (fun c_182 => ?_) (fun c_182 => ?_)
        · skip
          have c_182' := c_182
          try simp only [qq] at c_182'
          first | exact absurd c_182 (by decide) | (exfalso; simp at c_182; done) | (exfalso; simp at c_182; omega) | (exfalso; simp_all; done) | (exfalso; simp_all; omega)
        · skip
          have c_182' := c_182
          try simp only [qq] at c_182'
          refine aw_skip (aw_seq (aw_seq (aw_region (mvr J rfl (sq_ev rfl (ev_eql J J) ?_)))))
          refine mvr J rfl ?_
          refine ysl rfl rfl J rfl J ?_
          refine sq_yes rfl rfl J rfl (ev_len_map sl64 J) ?_
          refine ymr rfl rfl J rfl J (sq_yes rfl rfl J rfl (ev_neq J J) ?_)
          refine ymr rfl rfl J rfl J ?_
          refine sq_split 190 J (fun g13_7 => ?_) (fun g13_7 => ?_)
          · skip
            have g13_7' := g13_7
            try simp only [qq] at g13_7'
            first | exact absurd g13_7 (by decide) | (exfalso; simp at g13_7; done) | (exfalso; simp at g13_7; omega) | (exfalso; simp_all; done) | (exfalso; simp_all; omega)
          · skip
            have g13_7' := g13_7
            try simp only [qq] at g13_7'
            refine sq_yes rfl rfl (less_b g13_7) rfl (ev_mv (v := .sl _ _) J) ?_
            refine sq_yes rfl rfl (less_b g13_7) rfl (ev_len_map sl64 J) ?_
            refine sq_yes rfl rfl (less_b g13_7) rfl (ev_mv (v := .raw _) J) ?_
            refine sq_yes rfl rfl (less_b g13_7) rfl (ev_neq J J) ?_
            refine sq_yes rfl rfl J rfl (ev_pickF (v := .raw _) (less_b g13_7) J) ?_
            refine sq_ev rfl (ev_pickT (v := .raw _) J J) ?_
            refine mvr J rfl ?_
            refine sq_split 197 J (fun g13_14 => ?_) (fun g13_14 => ?_)
            · skip
              have g13_14' := g13_14
              try simp only [qq] at g13_14'
              first | exact absurd g13_14 (by decide) | (exfalso; simp at g13_14; done) | (exfalso; simp at g13_14; omega) | (exfalso; simp_all; done) | (exfalso; simp_all; omega)
            · skip
              have g13_14' := g13_14
              try simp only [qq] at g13_14'
              refine sq_yes rfl rfl (less_b g13_14) rfl (ev_mv (v := .raw _) J) ?_
              refine sq_yes rfl rfl (less_b g13_14) rfl (ev_eql J J) ?_
              refine sq_yes rfl rfl (less_b g13_14) rfl (ev_mv (v := .raw _) J) ?_
              refine sq_no rfl rfl J rfl rfl (sq_no rfl rfl J rfl rfl (sq_no rfl rfl J rfl rfl (sq_no rfl rfl J rfl rfl (sq_no rfl rfl J rfl rfl (sq_no rfl rfl J rfl rfl (sq_no rfl rfl J rfl rfl ?_))))))
              refine sq_no rfl rfl J rfl rfl (sq_no rfl rfl J rfl rfl (sq_no rfl rfl J rfl rfl (sq_no rfl rfl J rfl rfl (sq_no rfl rfl J rfl rfl (sq_no rfl rfl J rfl rfl (sq_yes rfl rfl (less_b g13_14) rfl (ev_pickF (v := .raw _) J J) ?_))))))
              refine sq_ev rfl (ev_pickF (v := .raw _) (less_b g13_14) J) ?_
              refine sq_nil ?_
              refine aw_false J ?_
              refine aw_skip (aw_seq (aw_seq (aw_region (mvs rfl J (mvs rfl J (sq_ev rfl (ev_call en50 J (h50) ⟨J, J, trivial⟩) ?_))))))
              refine sq_ev rfl (ev_not J) ?_
              refine sq_nil ?_
              refine aw_cond J (fun c_219 => ?_) (fun c_219 => ?_)
              · skip
                have c_219' := c_219
                try simp only [qq] at c_219'
                refine aw_seq (aw_region (sq_ev rfl (ev_call en27 J (known_pure) trivial) ?_))
                refine asr J rfl (sq_nil (aw_ret ?_))
                exact retQ_pure (v := .raw _) rfl rfl J
              · skip
                have c_219' := c_219
                try simp only [qq] at c_219'
                first | exact absurd c_219 (by decide) | (exfalso; simp at c_219; done) | (exfalso; simp at c_219; omega) | (exfalso; simp_all; done) | (exfalso; simp_all; omega)
set_option maxRecDepth 20000 in
theorem told_some0 {x : Sn} {f1 f2 : Nat} {p1 p2 : Pc} {a b : Int} {t u v : List Int} {c d : List (List UInt8)} (hrb : -1000 ≤ x.r.nl ∧ x.r.nl ≤ x.r.nh ∧ x.r.nh ≤ 1000) (hf1 : f1 < x.l.length) (hf2 : f2 < x.l.length) (hlt : f1 < f2)
    (h34 : APure Tryz.prog 34 [figs x.l] (B true)) (h36 : APure Tryz.prog 36 [stA x.s, figs x.l, rcA x.r, B true] (I 0))
    (h49 : APure Tryz.prog 49 [figs x.l, rcA x.r, .agg [I f1, I p1.near, I p1.x, I p1.y]] (B true)) (h49' : APure Tryz.prog 49 [figs x.l, rcA x.r, .agg [I f2, I p2.near, I p2.x, I p2.y]] (B true))
    (h44 : APure Tryz.prog 44 [stA x.s, figs x.l, rcA x.r] (.tup [I a, I b, I 0])) (h45 : APure Tryz.prog 45 [stA x.s, figs x.l, rcA x.r, I f1] (.tup [ints t, I 0])) (h45' : APure Tryz.prog 45 [stA x.s, figs x.l, rcA x.r, I f2] (.tup [ints u, I 0]))
    (h28 : APure Tryz.prog 28 [stA x.s, fgA x.l[f1], pcA p1] (.tup [strs c, I 0])) (h28' : APure Tryz.prog 28 [stA x.s, fgA x.l[f2], pcA p2] (.tup [strs d, I 0]))
    (k44 : APure Tryz.prog 44 [stA x.s, figs (x.l.take 1), rcA x.r] (.tup [I 0, I 0, I 5])) (k45 : APure Tryz.prog 45 [stA x.s, figs (x.l.take 1), rcA x.r, I 0] (.tup [ints v, I 0])) (hv : (v.length : Int) = x.r.nh - x.r.nl + 1)
    (h29 : APure Tryz.prog 29 [stA x.s, strs c] (B true)) (h29' : APure Tryz.prog 29 [stA x.s, strs d] (B true)) (hab : 0 ≤ a ∧ a < b ∧ b < x.l.length) (h50 : APure Tryz.prog 50 [strs c, strs d] (B false)) : APure Tryz.prog 8 [stA x.s, figs x.l, rcA x.r, .agg [I f1, I p1.near, I p1.x, I p1.y], .agg [I f2, I p2.near, I p2.x, I p2.y]] (B true) := by
  refine apure_of (rs := [.tmp 10]) Tryz.func8 rfl rfl (Nat.le_of_ble_eq_true rfl) (by simp [AV.pureL, AV.pureB, AV.pureE, pureE_map]) (by first | rfl | (simp [AV.pureL, AV.pureB, AV.pureE, pureE_map])) fun e0 he0 => ?_
  refine aw_seq (aw_region (sq_box rfl J rfl (sq_box rfl J rfl (sq_box rfl J rfl (sq_box rfl J rfl ?_)))))
  refine asr J rfl (sq_nil (aw_seq (aw_seq (aw_region (mvs rfl J (sq_ev rfl (ev_call en34 J (h34) ⟨J, trivial⟩) ?_))))))
  refine sq_ev rfl (ev_not J) ?_
  refine mvr J rfl (sq_yes rfl rfl J rfl (ev_load_agg J rfl ty23 rfl) ?_)
  refine ysl rfl rfl J rfl J ?_
  refine sq_yes rfl rfl J rfl (ev_load_agg J rfl ty49 rfl) ?_
  refine sq_yes rfl rfl J rfl (ev_call en36 J (h36) ⟨J, J, J, J, trivial⟩) ?_
  refine sq_yes rfl rfl J rfl (ev_neq J J) ?_
  refine pf rfl J J (mvr J rfl ?_)
  refine ysl rfl rfl J rfl J ?_
  refine sq_yes rfl rfl J rfl (ev_load_agg J rfl ty49 rfl) ?_
  refine sq_yes rfl rfl J rfl (ev_load_agg J rfl ty73 rfl) ?_
  refine sq_yes rfl rfl J rfl (ev_call en49 J (h49) ⟨J, J, J, trivial⟩) ?_
  refine sq_yes rfl rfl J rfl (ev_not J) ?_
  refine pf rfl J J (mvr J rfl ?_)
  refine ysl rfl rfl J rfl J ?_
  refine sq_yes rfl rfl J rfl (ev_load_agg J rfl ty49 rfl) ?_
  refine sq_yes rfl rfl J rfl (ev_load_agg J rfl ty73 rfl) ?_
  refine sq_yes rfl rfl J rfl (ev_call en49 J (h49') ⟨J, J, J, trivial⟩) ?_
  refine sq_yes rfl rfl J rfl (ev_not J) ?_
  refine pf rfl J J (mvr J rfl (sq_yes rfl rfl J rfl (ev_fieldAddr fo73_0 J) ?_))
  refine sq_yes rfl rfl J rfl (ev_load J rfl ty3 rfl) ?_
  refine sq_yes rfl rfl J rfl (ev_fieldAddr fo73_0 J) ?_
  refine sq_yes rfl rfl J rfl (ev_load J rfl ty3 rfl) ?_
  refine sq_yes rfl rfl J rfl (ev_geq J J) ?_
  refine pf rfl J J (sq_nil ?_)
  refine aw_cond J (fun c_58 => ?_) (fun c_58 => ?_)
  · skip
    have c_58' := c_58
    try simp only [qq] at c_58'
    first | exact absurd c_58 (by decide) | (exfalso; simp at c_58; done) | (exfalso; simp at c_58; omega) | (exfalso; simp_all; done) | (exfalso; simp_all; omega)
  · skip
    have c_58' := c_58
    try simp only [qq] at c_58'
    refine aw_skip (aw_seq (aw_region (sq_ev rfl (ev_load_agg J rfl ty23 rfl) ?_)))
    refine mvs rfl J (sq_ev rfl (ev_load_agg J rfl ty49 rfl) ?_)
    refine sq_ev rfl (ev_call en44 J (h44) ⟨J, J, J, trivial⟩) ?_
    refine sq_ev rfl (ev_mv (v := .tup _) J) ?_
    refine xtr rfl J rfl (xtr rfl J rfl (xtr rfl J rfl ?_))
    refine asr J rfl (asr J rfl (asr J rfl (sq_nil (aw_seq (aw_region (sq_ev rfl (ev_load_agg J rfl ty23 rfl) ?_))))))
    refine mvs rfl J (sq_ev rfl (ev_load_agg J rfl ty49 rfl) ?_)
    refine sq_ev rfl (ev_fieldAddr fo73_0 J) ?_
    refine sq_ev rfl (ev_load J rfl ty3 rfl) ?_
    refine sq_ev rfl (ev_call en45 J (h45) ⟨J, J, J, J, trivial⟩) ?_
    refine sq_ev rfl (ev_mv (v := .tup _) J) ?_
    refine xtr rfl J rfl ?_
    refine xtr rfl J rfl (ass rfl J (asr J rfl (sq_nil (aw_seq (aw_region (sq_ev rfl (ev_load_agg J rfl ty23 rfl) ?_))))))
    refine mvs rfl J (sq_ev rfl (ev_load_agg J rfl ty49 rfl) ?_)
    refine sq_ev rfl (ev_fieldAddr fo73_0 J) ?_
    refine sq_ev rfl (ev_load J rfl ty3 rfl) ?_
    refine sq_ev rfl (ev_call en45 J (h45') ⟨J, J, J, J, trivial⟩) ?_
    refine sq_ev rfl (ev_mv (v := .tup _) J) ?_
    refine xtr rfl J rfl (xtr rfl J rfl (ass rfl J (asr J rfl (sq_nil (aw_seq ?_)))))
    refine aw_draw 14 mo (by kernel_rfl) ?_
    refine dr_ev rfl (ev_load_agg J rfl ty23 rfl) ?_
    refine dr_ev rfl (ev_mv (v := .sl _ _) J) ?_
    refine dr_ev rfl (ev_fieldAddr fo73_0 J) ?_
    refine dr_ev rfl (ev_load J rfl ty3 rfl) ?_
    refine dr_ev rfl (ev_index_map (k := f1) sl45 J J rfl hf1) ?_
    refine dr_ev rfl (ev_load_agg_i J ty26 (by exact Nat.le_of_ble_eq_true rfl)) ?_
    refine dr_ev rfl (ev_fieldAddr fo73_1 J) ?_
    refine dr_ev rfl (ev_load_agg J rfl ty28 rfl) ?_
    refine dr_ev rfl (ev_call en28 J (h28) ⟨J, J, J, trivial⟩) ?_
    refine dr_ev rfl (ev_mv (v := .tup _) J) ?_
    refine dr_ev rfl (ev_extract J rfl) ?_
    refine dr_ev rfl (ev_extract J rfl) ?_
    refine dr_ev rfl (ev_as (v := .sl _ _) J) ?_
    refine dr_ev rfl (ev_as (v := .raw _) J) ?_
    refine dr_end (sq_nil (aw_seq ?_))
    refine aw_draw 14 mo (by kernel_rfl) ?_
    refine dr_ev rfl (ev_load_agg J rfl ty23 rfl) ?_
    refine dr_ev rfl (ev_mv (v := .sl _ _) J) ?_
    refine dr_ev rfl (ev_fieldAddr fo73_0 J) ?_
    refine dr_ev rfl (ev_load J rfl ty3 rfl) ?_
    refine dr_ev rfl (ev_index_map (k := f2) sl45 J J rfl hf2) ?_
    refine dr_ev rfl (ev_load_agg_i J ty26 (by exact Nat.le_of_ble_eq_true rfl)) ?_
    refine dr_ev rfl (ev_fieldAddr fo73_1 J) ?_
    refine dr_ev rfl (ev_load_agg J rfl ty28 rfl) ?_
    refine dr_ev rfl (ev_call en28 J (h28') ⟨J, J, J, trivial⟩) ?_
    refine dr_ev rfl (ev_mv (v := .tup _) J) ?_
    refine dr_ev rfl (ev_extract J rfl) ?_
    refine dr_ev rfl (ev_extract J rfl) ?_
    refine dr_ev rfl (ev_as (v := .sl _ _) J) ?_
    refine dr_ev rfl (ev_as (v := .raw _) J) ?_
    refine dr_end (sq_nil (aw_seq ?_))
    refine aw_draw 12 mo (by kernel_rfl) ?_
    refine dr_ev rfl (ev_load_agg J rfl ty23 rfl) ?_
    refine dr_ev rfl (ev_mv (v := .sl _ _) J) ?_
    refine dr_ev rfl (ev_less (ev_slice (lo := 0) (hi := 1) sl45 J rfl J (by omega) (by simp; omega)) (Less.eq (b := figs (x.l.take 1)) (by simp [figs, List.map_take]))) ?_
    refine dr_ev rfl (ev_load_agg J rfl ty49 rfl) ?_
    refine dr_ev rfl (ev_call en44 J (k44) ⟨J, J, J, trivial⟩) ?_
    refine dr_ev rfl (ev_mv (v := .tup _) J) ?_
    refine dr_ev rfl (ev_extract J rfl) ?_
    refine dr_ev rfl (ev_extract J rfl) ?_
    refine dr_ev rfl (ev_extract J rfl) ?_
    refine dr_ev rfl (ev_as (v := .raw _) J) ?_
    refine dr_ev rfl (ev_as (v := .raw _) J) ?_
    refine dr_ev rfl (ev_as (v := .raw _) J) ?_
    refine dr_end (sq_nil (aw_seq ?_))
    refine aw_draw 10 mo (by kernel_rfl) ?_
    refine dr_ev rfl (ev_load_agg J rfl ty23 rfl) ?_
    refine dr_ev rfl (ev_mv (v := .sl _ _) J) ?_
    refine dr_ev rfl (ev_less (ev_slice (lo := 0) (hi := 1) sl45 J rfl J (by omega) (by simp; omega)) (Less.eq (b := figs (x.l.take 1)) (by simp [figs, List.map_take]))) ?_
    refine dr_ev rfl (ev_load_agg J rfl ty49 rfl) ?_
    refine dr_ev rfl (ev_call en45 J (k45) ⟨J, J, J, J, trivial⟩) ?_
    refine dr_ev rfl (ev_mv (v := .tup _) J) ?_
    refine dr_ev rfl (ev_extract J rfl) ?_
    refine dr_ev rfl (ev_extract J rfl) ?_
    refine dr_ev rfl (ev_as (v := .sl _ _) J) ?_
    refine dr_ev rfl (ev_as (v := .raw _) J) ?_
    refine dr_end (sq_nil (aw_seq (aw_region (sq_ev rfl (ev_fieldAddr fo49_0 J) ?_))))
    refine sq_ev rfl (ev_fieldAddr fo47_1 J) ?_
    refine sq_ev rfl (ev_load J rfl ty3 rfl) ?_
    refine sq_ev rfl (ev_fieldAddr fo49_0 J) ?_
    refine sq_ev rfl (ev_fieldAddr fo47_0 J) ?_
    refine sq_ev rfl (ev_load J rfl ty3 rfl) ?_
    refine sq_ev rfl (ev_sub J J (wr (by omega) (by omega))) ?_
    refine sq_ev rfl (ev_add J J (wr (by omega) (by omega))) ?_
    refine asr J rfl (sq_nil (aw_seq (aw_seq (aw_region (mvr J rfl (sq_ev rfl (ev_neq J J) ?_))))))
    refine mvr J rfl (sq_no rfl rfl J rfl rfl (sq_no rfl rfl J rfl rfl (pf rfl J J (mvr J rfl (ymr rfl rfl J rfl J (sq_yes rfl rfl J rfl (ev_neq J J) ?_))))))
    refine pf rfl J J (mvr J rfl (ymr rfl rfl J rfl J (sq_yes rfl rfl J rfl (ev_neq J J) ?_)))
    refine pf rfl J J (mvr J rfl (ymr rfl rfl J rfl J (sq_yes rfl rfl J rfl (ev_neq J J) ?_)))
    refine pf rfl J J (mvr J rfl (ymr rfl rfl J rfl J (sq_yes rfl rfl J rfl (ev_neq J J) ?_)))
    refine pf rfl J J (mvr J rfl (ymr rfl rfl J rfl J (sq_yes rfl rfl J rfl (ev_neq J J) ?_)))
    refine pf rfl J J (mvr J rfl (ymr rfl rfl J rfl J (sq_yes rfl rfl J rfl (ev_neq J J) ?_)))
    refine pf rfl J J (mvr J rfl ?_)
    refine ysl rfl rfl J rfl J ?_
    refine sq_yes rfl rfl J rfl (ev_len_map sl64 J) ?_
    refine ymr rfl rfl J rfl J (sq_yes rfl rfl J rfl (ev_neq J J) ?_)
    refine pf rfl J J (mvr J rfl ?_)
    refine sq_split 171 J (fun g11_36 => ?_) (fun g11_36 => ?_)
    · skip
      have g11_36' := g11_36
      try simp only [qq] at g11_36'
      first | exact absurd g11_36 (by decide) | (exfalso; simp at g11_36; done) | (exfalso; simp at g11_36; omega) | (exfalso; simp_all; done) | (exfalso; simp_all; omega)
    · skip
      have g11_36' := g11_36
      try simp only [qq] at g11_36'
      refine sq_yes rfl rfl (less_b g11_36) rfl (ev_load_agg J rfl ty23 rfl) ?_
      refine sq_yes rfl rfl (less_b g11_36) rfl (ev_mv (v := .sl _ _) J) ?_
      refine sq_yes rfl rfl (less_b g11_36) rfl (ev_call en29 J (h29) ⟨J, J, trivial⟩) ?_
      refine sq_yes rfl rfl (less_b g11_36) rfl (ev_not J) ?_
      refine sq_ev rfl (ev_pickF (v := .raw _) (less_b g11_36) J) ?_
      refine mvr J rfl ?_
      refine sq_split 177 J (fun g11_42 => ?_) (fun g11_42 => ?_)
      · skip
        have g11_42' := g11_42
        try simp only [qq] at g11_42'
        first | exact absurd g11_42 (by decide) | (exfalso; simp at g11_42; done) | (exfalso; simp at g11_42; omega) | (exfalso; simp_all; done) | (exfalso; simp_all; omega)
      · skip
        have g11_42' := g11_42
        try simp only [qq] at g11_42'
        refine sq_yes rfl rfl (less_b g11_42) rfl (ev_load_agg J rfl ty23 rfl) ?_
        refine sq_yes rfl rfl (less_b g11_42) rfl (ev_mv (v := .sl _ _) J) ?_
        refine sq_yes rfl rfl (less_b g11_42) rfl (ev_call en29 J (h29') ⟨J, J, trivial⟩) ?_
        refine sq_yes rfl rfl (less_b g11_42) rfl (ev_not J) ?_
        refine sq_ev rfl (ev_pickF (v := .raw _) (less_b g11_42) J) ?_
        refine sq_nil ?_
        refine aw_cond J (fun c_182 => ?_) (fun c_182 => ?_)
        · skip
          have c_182' := c_182
          try simp only [qq] at c_182'
          first | exact absurd c_182 (by decide) | (exfalso; simp at c_182; done) | (exfalso; simp at c_182; omega) | (exfalso; simp_all; done) | (exfalso; simp_all; omega)
        · skip
          have c_182' := c_182
          try simp only [qq] at c_182'
          refine aw_skip (aw_seq (aw_seq (aw_region (mvr J rfl (sq_ev rfl (ev_eql J J) ?_)))))
          refine mvr J rfl ?_
          refine sq_no rfl rfl J rfl rfl (sq_no rfl rfl J rfl rfl (sq_no rfl rfl J rfl rfl (sq_no rfl rfl J rfl rfl (sq_no rfl rfl J rfl rfl (sq_no rfl rfl J rfl rfl (sq_no rfl rfl J rfl rfl ?_))))))
          refine sq_no rfl rfl J rfl rfl (sq_no rfl rfl J rfl rfl (sq_no rfl rfl J rfl rfl (pf rfl J J (mvr J rfl (ymr rfl rfl J rfl J (sq_yes rfl rfl J rfl (ev_eql J J) ?_))))))
          refine ymr rfl rfl J rfl J (ymr rfl rfl J rfl J (sq_yes rfl rfl J rfl (ev_lss J J) ?_))
          refine ymr rfl rfl J rfl J ?_
          refine sq_split 203 J (fun g13_20 => ?_) (fun g13_20 => ?_)
          · skip
            have g13_20' := g13_20
            try simp only [qq] at g13_20'
            first | exact absurd g13_20 (by decide) | (exfalso; simp at g13_20; done) | (exfalso; simp at g13_20; omega) | (exfalso; simp_all; done) | (exfalso; simp_all; omega)
          · skip
            have g13_20' := g13_20
            try simp only [qq] at g13_20'
            refine sq_yes rfl rfl (less_b g13_20) rfl (ev_mv (v := .raw _) J) ?_
            refine sq_yes rfl rfl (less_b g13_20) rfl (ev_mv (v := .raw _) J) ?_
            refine sq_yes rfl rfl (less_b g13_20) rfl (ev_geq J J) ?_
            refine sq_yes rfl rfl J rfl (ev_pickF (v := .raw _) (less_b g13_20) J) ?_
            refine ymr rfl rfl J rfl J ?_
            refine sq_split 208 J (fun g13_25 => ?_) (fun g13_25 => ?_)
            · skip
              have g13_25' := g13_25
              try simp only [qq] at g13_25'
              first | exact absurd g13_25 (by decide) | (exfalso; simp at g13_25; done) | (exfalso; simp at g13_25; omega) | (exfalso; simp_all; done) | (exfalso; simp_all; omega)
            · skip
              have g13_25' := g13_25
              try simp only [qq] at g13_25'
              refine sq_yes rfl rfl (less_b g13_25) rfl (ev_mv (v := .raw _) J) ?_
              refine sq_yes rfl rfl (less_b g13_25) rfl (ev_mv (v := .sl _ _) J) ?_
              refine sq_yes rfl rfl (less_b g13_25) rfl (ev_len_map sl45 J) ?_
              refine sq_yes rfl rfl (less_b g13_25) rfl (ev_geq J J) ?_
              refine sq_yes rfl rfl J rfl (ev_pickF (v := .raw _) (less_b g13_25) J) ?_
              refine sq_yes rfl rfl J rfl (ev_pickT (v := .raw _) J J) ?_
              refine pf rfl J J (sq_nil ?_)
              refine aw_cond J (fun c_215 => ?_) (fun c_215 => ?_)
              · skip
                have c_215' := c_215
                try simp only [qq] at c_215'
                first | exact absurd c_215 (by decide) | (exfalso; simp at c_215; done) | (exfalso; simp at c_215; omega) | (exfalso; simp_all; done) | (exfalso; simp_all; omega)
              · skip
                have c_215' := c_215
                try simp only [qq] at c_215'
                refine aw_skip (aw_seq (aw_seq (aw_region (mvs rfl J (mvs rfl J (sq_ev rfl (ev_call en50 J (h50) ⟨J, J, trivial⟩) ?_))))))
                refine sq_ev rfl (ev_not J) ?_
                refine sq_nil ?_
                refine aw_cond J (fun c_219 => ?_) (fun c_219 => ?_)
                · skip
                  have c_219' := c_219
                  try simp only [qq] at c_219'
                  refine aw_seq (aw_region (sq_ev rfl (ev_call en27 J (known_pure) trivial) ?_))
                  refine asr J rfl (sq_nil (aw_ret ?_))
                  exact retQ_pure (v := .raw _) rfl rfl J
                · skip
                  have c_219' := c_219
                  try simp only [qq] at c_219'
                  first | exact absurd c_219 (by decide) | (exfalso; simp at c_219; done) | (exfalso; simp at c_219; omega) | (exfalso; simp_all; done) | (exfalso; simp_all; omega)
set_option maxRecDepth 20000 in
theorem told_some1 {x : Sn} {f1 f2 : Nat} {p1 p2 : Pc} {a b : Int} {t u v : List Int} {c d : List (List UInt8)} (hrb : -1000 ≤ x.r.nl ∧ x.r.nl ≤ x.r.nh ∧ x.r.nh ≤ 1000) (hf1 : f1 < x.l.length) (hf2 : f2 < x.l.length) (hlt : f1 < f2)
    (h34 : APure Tryz.prog 34 [figs x.l] (B true)) (h36 : APure Tryz.prog 36 [stA x.s, figs x.l, rcA x.r, B true] (I 0))
    (h49 : APure Tryz.prog 49 [figs x.l, rcA x.r, .agg [I f1, I p1.near, I p1.x, I p1.y]] (B true)) (h49' : APure Tryz.prog 49 [figs x.l, rcA x.r, .agg [I f2, I p2.near, I p2.x, I p2.y]] (B true))
    (h44 : APure Tryz.prog 44 [stA x.s, figs x.l, rcA x.r] (.tup [I a, I b, I 0])) (h45 : APure Tryz.prog 45 [stA x.s, figs x.l, rcA x.r, I f1] (.tup [ints t, I 0])) (h45' : APure Tryz.prog 45 [stA x.s, figs x.l, rcA x.r, I f2] (.tup [ints u, I 0]))
    (h28 : APure Tryz.prog 28 [stA x.s, fgA x.l[f1], pcA p1] (.tup [strs c, I 0])) (h28' : APure Tryz.prog 28 [stA x.s, fgA x.l[f2], pcA p2] (.tup [strs d, I 0]))
    (k44 : APure Tryz.prog 44 [stA x.s, figs (x.l.take 1), rcA x.r] (.tup [I 0, I 0, I 5])) (k45 : APure Tryz.prog 45 [stA x.s, figs (x.l.take 1), rcA x.r, I 0] (.tup [ints v, I 0])) (hv : (v.length : Int) = x.r.nh - x.r.nl + 1)
    (h29 : APure Tryz.prog 29 [stA x.s, strs c] (B true)) (h29' : APure Tryz.prog 29 [stA x.s, strs d] (B true)) (hab : 0 ≤ a ∧ a < b ∧ b < x.l.length) (h50 : APure Tryz.prog 50 [strs c, strs d] (B true)) (h51 : APure Tryz.prog 51 [ints t, I p1.near] (B false)) (h51' : APure Tryz.prog 51 [ints u, I p2.near] (B false)) (h1 : a < f1) : APure Tryz.prog 8 [stA x.s, figs x.l, rcA x.r, .agg [I f1, I p1.near, I p1.x, I p1.y], .agg [I f2, I p2.near, I p2.x, I p2.y]] (B true) := by
  refine apure_of (rs := [.tmp 10]) Tryz.func8 rfl rfl (Nat.le_of_ble_eq_true rfl) (by simp [AV.pureL, AV.pureB, AV.pureE, pureE_map]) (by first | rfl | (simp [AV.pureL, AV.pureB, AV.pureE, pureE_map])) fun e0 he0 => ?_
  refine aw_seq (aw_region (sq_box rfl J rfl (sq_box rfl J rfl (sq_box rfl J rfl (sq_box rfl J rfl ?_)))))
  refine asr J rfl (sq_nil (aw_seq (aw_seq (aw_region (mvs rfl J (sq_ev rfl (ev_call en34 J (h34) ⟨J, trivial⟩) ?_))))))
  refine sq_ev rfl (ev_not J) ?_
  refine mvr J rfl (sq_yes rfl rfl J rfl (ev_load_agg J rfl ty23 rfl) ?_)
  refine ysl rfl rfl J rfl J ?_
  refine sq_yes rfl rfl J rfl (ev_load_agg J rfl ty49 rfl) ?_
  refine sq_yes rfl rfl J rfl (ev_call en36 J (h36) ⟨J, J, J, J, trivial⟩) ?_
  refine sq_yes rfl rfl J rfl (ev_neq J J) ?_
  refine pf rfl J J (mvr J rfl ?_)
  refine ysl rfl rfl J rfl J ?_
  refine sq_yes rfl rfl J rfl (ev_load_agg J rfl ty49 rfl) ?_
  refine sq_yes rfl rfl J rfl (ev_load_agg J rfl ty73 rfl) ?_
  refine sq_yes rfl rfl J rfl (ev_call en49 J (h49) ⟨J, J, J, trivial⟩) ?_
  refine sq_yes rfl rfl J rfl (ev_not J) ?_
  refine pf rfl J J (mvr J rfl ?_)
  refine ysl rfl rfl J rfl J ?_
  refine sq_yes rfl rfl J rfl (ev_load_agg J rfl ty49 rfl) ?_
  refine sq_yes rfl rfl J rfl (ev_load_agg J rfl ty73 rfl) ?_
  refine sq_yes rfl rfl J rfl (ev_call en49 J (h49') ⟨J, J, J, trivial⟩) ?_
  refine sq_yes rfl rfl J rfl (ev_not J) ?_
  refine pf rfl J J (mvr J rfl (sq_yes rfl rfl J rfl (ev_fieldAddr fo73_0 J) ?_))
  refine sq_yes rfl rfl J rfl (ev_load J rfl ty3 rfl) ?_
  refine sq_yes rfl rfl J rfl (ev_fieldAddr fo73_0 J) ?_
  refine sq_yes rfl rfl J rfl (ev_load J rfl ty3 rfl) ?_
  refine sq_yes rfl rfl J rfl (ev_geq J J) ?_
  refine pf rfl J J (sq_nil ?_)
  refine aw_cond J (fun c_58 => ?_) (fun c_58 => ?_)
  · skip
    have c_58' := c_58
    try simp only [qq] at c_58'
    first | exact absurd c_58 (by decide) | (exfalso; simp at c_58; done) | (exfalso; simp at c_58; omega) | (exfalso; simp_all; done) | (exfalso; simp_all; omega)
  · skip
    have c_58' := c_58
    try simp only [qq] at c_58'
    refine aw_skip (aw_seq (aw_region (sq_ev rfl (ev_load_agg J rfl ty23 rfl) ?_)))
    refine mvs rfl J (sq_ev rfl (ev_load_agg J rfl ty49 rfl) ?_)
    refine sq_ev rfl (ev_call en44 J (h44) ⟨J, J, J, trivial⟩) ?_
    refine sq_ev rfl (ev_mv (v := .tup _) J) ?_
    refine xtr rfl J rfl (xtr rfl J rfl (xtr rfl J rfl ?_))
    refine asr J rfl (asr J rfl (asr J rfl (sq_nil (aw_seq (aw_region (sq_ev rfl (ev_load_agg J rfl ty23 rfl) ?_))))))
    refine mvs rfl J (sq_ev rfl (ev_load_agg J rfl ty49 rfl) ?_)
    refine sq_ev rfl (ev_fieldAddr fo73_0 J) ?_
    refine sq_ev rfl (ev_load J rfl ty3 rfl) ?_
    refine sq_ev rfl (ev_call en45 J (h45) ⟨J, J, J, J, trivial⟩) ?_
    refine sq_ev rfl (ev_mv (v := .tup _) J) ?_
    refine xtr rfl J rfl ?_
    refine xtr rfl J rfl (ass rfl J (asr J rfl (sq_nil (aw_seq (aw_region (sq_ev rfl (ev_load_agg J rfl ty23 rfl) ?_))))))
    refine mvs rfl J (sq_ev rfl (ev_load_agg J rfl ty49 rfl) ?_)
    refine sq_ev rfl (ev_fieldAddr fo73_0 J) ?_
    refine sq_ev rfl (ev_load J rfl ty3 rfl) ?_
    refine sq_ev rfl (ev_call en45 J (h45') ⟨J, J, J, J, trivial⟩) ?_
    refine sq_ev rfl (ev_mv (v := .tup _) J) ?_
    refine xtr rfl J rfl (xtr rfl J rfl (ass rfl J (asr J rfl (sq_nil (aw_seq ?_)))))
    refine aw_draw 14 mo (by kernel_rfl) ?_
    refine dr_ev rfl (ev_load_agg J rfl ty23 rfl) ?_
    refine dr_ev rfl (ev_mv (v := .sl _ _) J) ?_
    refine dr_ev rfl (ev_fieldAddr fo73_0 J) ?_
    refine dr_ev rfl (ev_load J rfl ty3 rfl) ?_
    refine dr_ev rfl (ev_index_map (k := f1) sl45 J J rfl hf1) ?_
    refine dr_ev rfl (ev_load_agg_i J ty26 (by exact Nat.le_of_ble_eq_true rfl)) ?_
    refine dr_ev rfl (ev_fieldAddr fo73_1 J) ?_
    refine dr_ev rfl (ev_load_agg J rfl ty28 rfl) ?_
    refine dr_ev rfl (ev_call en28 J (h28) ⟨J, J, J, trivial⟩) ?_
    refine dr_ev rfl (ev_mv (v := .tup _) J) ?_
    refine dr_ev rfl (ev_extract J rfl) ?_
    refine dr_ev rfl (ev_extract J rfl) ?_
    refine dr_ev rfl (ev_as (v := .sl _ _) J) ?_
    refine dr_ev rfl (ev_as (v := .raw _) J) ?_
    refine dr_end (sq_nil (aw_seq ?_))
    refine aw_draw 14 mo (by kernel_rfl) ?_
    refine dr_ev rfl (ev_load_agg J rfl ty23 rfl) ?_
    refine dr_ev rfl (ev_mv (v := .sl _ _) J) ?_
    refine dr_ev rfl (ev_fieldAddr fo73_0 J) ?_
    refine dr_ev rfl (ev_load J rfl ty3 rfl) ?_
    refine dr_ev rfl (ev_index_map (k := f2) sl45 J J rfl hf2) ?_
    refine dr_ev rfl (ev_load_agg_i J ty26 (by exact Nat.le_of_ble_eq_true rfl)) ?_
    refine dr_ev rfl (ev_fieldAddr fo73_1 J) ?_
    refine dr_ev rfl (ev_load_agg J rfl ty28 rfl) ?_
    refine dr_ev rfl (ev_call en28 J (h28') ⟨J, J, J, trivial⟩) ?_
    refine dr_ev rfl (ev_mv (v := .tup _) J) ?_
    refine dr_ev rfl (ev_extract J rfl) ?_
    refine dr_ev rfl (ev_extract J rfl) ?_
    refine dr_ev rfl (ev_as (v := .sl _ _) J) ?_
    refine dr_ev rfl (ev_as (v := .raw _) J) ?_
    refine dr_end (sq_nil (aw_seq ?_))
    refine aw_draw 12 mo (by kernel_rfl) ?_
    refine dr_ev rfl (ev_load_agg J rfl ty23 rfl) ?_
    refine dr_ev rfl (ev_mv (v := .sl _ _) J) ?_
    refine dr_ev rfl (ev_less (ev_slice (lo := 0) (hi := 1) sl45 J rfl J (by omega) (by simp; omega)) (Less.eq (b := figs (x.l.take 1)) (by simp [figs, List.map_take]))) ?_
    refine dr_ev rfl (ev_load_agg J rfl ty49 rfl) ?_
    refine dr_ev rfl (ev_call en44 J (k44) ⟨J, J, J, trivial⟩) ?_
    refine dr_ev rfl (ev_mv (v := .tup _) J) ?_
    refine dr_ev rfl (ev_extract J rfl) ?_
    refine dr_ev rfl (ev_extract J rfl) ?_
    refine dr_ev rfl (ev_extract J rfl) ?_
    refine dr_ev rfl (ev_as (v := .raw _) J) ?_
    refine dr_ev rfl (ev_as (v := .raw _) J) ?_
    refine dr_ev rfl (ev_as (v := .raw _) J) ?_
    refine dr_end (sq_nil (aw_seq ?_))
    refine aw_draw 10 mo (by kernel_rfl) ?_
    refine dr_ev rfl (ev_load_agg J rfl ty23 rfl) ?_
    refine dr_ev rfl (ev_mv (v := .sl _ _) J) ?_
    refine dr_ev rfl (ev_less (ev_slice (lo := 0) (hi := 1) sl45 J rfl J (by omega) (by simp; omega)) (Less.eq (b := figs (x.l.take 1)) (by simp [figs, List.map_take]))) ?_
    refine dr_ev rfl (ev_load_agg J rfl ty49 rfl) ?_
    refine dr_ev rfl (ev_call en45 J (k45) ⟨J, J, J, J, trivial⟩) ?_
    refine dr_ev rfl (ev_mv (v := .tup _) J) ?_
    refine dr_ev rfl (ev_extract J rfl) ?_
    refine dr_ev rfl (ev_extract J rfl) ?_
    refine dr_ev rfl (ev_as (v := .sl _ _) J) ?_
    refine dr_ev rfl (ev_as (v := .raw _) J) ?_
    refine dr_end (sq_nil (aw_seq (aw_region (sq_ev rfl (ev_fieldAddr fo49_0 J) ?_))))
    refine sq_ev rfl (ev_fieldAddr fo47_1 J) ?_
    refine sq_ev rfl (ev_load J rfl ty3 rfl) ?_
    refine sq_ev rfl (ev_fieldAddr fo49_0 J) ?_
    refine sq_ev rfl (ev_fieldAddr fo47_0 J) ?_
    refine sq_ev rfl (ev_load J rfl ty3 rfl) ?_
    refine sq_ev rfl (ev_sub J J (wr (by omega) (by omega))) ?_
    refine sq_ev rfl (ev_add J J (wr (by omega) (by omega))) ?_
    refine asr J rfl (sq_nil (aw_seq (aw_seq (aw_region (mvr J rfl (sq_ev rfl (ev_neq J J) ?_))))))
    refine mvr J rfl (sq_no rfl rfl J rfl rfl (sq_no rfl rfl J rfl rfl (pf rfl J J (mvr J rfl (ymr rfl rfl J rfl J (sq_yes rfl rfl J rfl (ev_neq J J) ?_))))))
    refine pf rfl J J (mvr J rfl (ymr rfl rfl J rfl J (sq_yes rfl rfl J rfl (ev_neq J J) ?_)))
    refine pf rfl J J (mvr J rfl (ymr rfl rfl J rfl J (sq_yes rfl rfl J rfl (ev_neq J J) ?_)))
    refine pf rfl J J (mvr J rfl (ymr rfl rfl J rfl J (sq_yes rfl rfl J rfl (ev_neq J J) ?_)))
    refine pf rfl J J (mvr J rfl (ymr rfl rfl J rfl J (sq_yes rfl rfl J rfl (ev_neq J J) ?_)))
    refine pf rfl J J (mvr J rfl (ymr rfl rfl J rfl J (sq_yes rfl rfl J rfl (ev_neq J J) ?_)))
    refine pf rfl J J (mvr J rfl ?_)
    refine ysl rfl rfl J rfl J ?_
    refine sq_yes rfl rfl J rfl (ev_len_map sl64 J) ?_
    refine ymr rfl rfl J rfl J (sq_yes rfl rfl J rfl (ev_neq J J) ?_)
    refine pf rfl J J (mvr J rfl ?_)
    refine sq_split 171 J (fun g11_36 => ?_) (fun g11_36 => ?_)
    · skip
      have g11_36' := g11_36
      try simp only [qq] at g11_36'
      first | exact absurd g11_36 (by decide) | (exfalso; simp at g11_36; done) | (exfalso; simp at g11_36; omega) | (exfalso; simp_all; done) | (exfalso; simp_all; omega)
    · skip
      have g11_36' := g11_36
      try simp only [qq] at g11_36'
      refine sq_yes rfl rfl (less_b g11_36) rfl (ev_load_agg J rfl ty23 rfl) ?_
      refine sq_yes rfl rfl (less_b g11_36) rfl (ev_mv (v := .sl _ _) J) ?_
      refine sq_yes rfl rfl (less_b g11_36) rfl (ev_call en29 J (h29) ⟨J, J, trivial⟩) ?_
      refine sq_yes rfl rfl (less_b g11_36) rfl (ev_not J) ?_
      refine sq_ev rfl (ev_pickF (v := .raw _) (less_b g11_36) J) ?_
      refine mvr J rfl ?_
      refine sq_split 177 J (fun g11_42 => ?_) (fun g11_42 => ?_)
      · skip
        have g11_42' := g11_42
        try simp only [qq] at g11_42'
        first | exact absurd g11_42 (by decide) | (exfalso; simp at g11_42; done) | (exfalso; simp at g11_42; omega) | (exfalso; simp_all; done) | (exfalso; simp_all; omega)
      · skip
        have g11_42' := g11_42
        try simp only [qq] at g11_42'
        refine sq_yes rfl rfl (less_b g11_42) rfl (ev_load_agg J rfl ty23 rfl) ?_
        refine sq_yes rfl rfl (less_b g11_42) rfl (ev_mv (v := .sl _ _) J) ?_
        refine sq_yes rfl rfl (less_b g11_42) rfl (ev_call en29 J (h29') ⟨J, J, trivial⟩) ?_
        refine sq_yes rfl rfl (less_b g11_42) rfl (ev_not J) ?_
        refine sq_ev rfl (ev_pickF (v := .raw _) (less_b g11_42) J) ?_
        refine sq_nil ?_
        refine aw_cond J (fun c_182 => ?_) (fun c_182 => ?_)
        · skip
          have c_182' := c_182
          try simp only [qq] at c_182'
          first | exact absurd c_182 (by decide) | (exfalso; simp at c_182; done) | (exfalso; simp at c_182; omega) | (exfalso; simp_all; done) | (exfalso; simp_all; omega)
        · skip
          have c_182' := c_182
          try simp only [qq] at c_182'
          refine aw_skip (aw_seq (aw_seq (aw_region (mvr J rfl (sq_ev rfl (ev_eql J J) ?_)))))
          refine mvr J rfl ?_
          refine sq_no rfl rfl J rfl rfl (sq_no rfl rfl J rfl rfl (sq_no rfl rfl J rfl rfl (sq_no rfl rfl J rfl rfl (sq_no rfl rfl J rfl rfl (sq_no rfl rfl J rfl rfl (sq_no rfl rfl J rfl rfl ?_))))))
          refine sq_no rfl rfl J rfl rfl (sq_no rfl rfl J rfl rfl (sq_no rfl rfl J rfl rfl (pf rfl J J (mvr J rfl (ymr rfl rfl J rfl J (sq_yes rfl rfl J rfl (ev_eql J J) ?_))))))
          refine ymr rfl rfl J rfl J (ymr rfl rfl J rfl J (sq_yes rfl rfl J rfl (ev_lss J J) ?_))
          refine ymr rfl rfl J rfl J ?_
          refine sq_split 203 J (fun g13_20 => ?_) (fun g13_20 => ?_)
          · skip
            have g13_20' := g13_20
            try simp only [qq] at g13_20'
            first | exact absurd g13_20 (by decide) | (exfalso; simp at g13_20; done) | (exfalso; simp at g13_20; omega) | (exfalso; simp_all; done) | (exfalso; simp_all; omega)
          · skip
            have g13_20' := g13_20
            try simp only [qq] at g13_20'
            refine sq_yes rfl rfl (less_b g13_20) rfl (ev_mv (v := .raw _) J) ?_
            refine sq_yes rfl rfl (less_b g13_20) rfl (ev_mv (v := .raw _) J) ?_
            refine sq_yes rfl rfl (less_b g13_20) rfl (ev_geq J J) ?_
            refine sq_yes rfl rfl J rfl (ev_pickF (v := .raw _) (less_b g13_20) J) ?_
            refine ymr rfl rfl J rfl J ?_
            refine sq_split 208 J (fun g13_25 => ?_) (fun g13_25 => ?_)
            · skip
              have g13_25' := g13_25
              try simp only [qq] at g13_25'
              first | exact absurd g13_25 (by decide) | (exfalso; simp at g13_25; done) | (exfalso; simp at g13_25; omega) | (exfalso; simp_all; done) | (exfalso; simp_all; omega)
            · skip
              have g13_25' := g13_25
              try simp only [qq] at g13_25'
              refine sq_yes rfl rfl (less_b g13_25) rfl (ev_mv (v := .raw _) J) ?_
              refine sq_yes rfl rfl (less_b g13_25) rfl (ev_mv (v := .sl _ _) J) ?_
              refine sq_yes rfl rfl (less_b g13_25) rfl (ev_len_map sl45 J) ?_
              refine sq_yes rfl rfl (less_b g13_25) rfl (ev_geq J J) ?_
              refine sq_yes rfl rfl J rfl (ev_pickF (v := .raw _) (less_b g13_25) J) ?_
              refine sq_yes rfl rfl J rfl (ev_pickT (v := .raw _) J J) ?_
              refine pf rfl J J (sq_nil ?_)
              refine aw_cond J (fun c_215 => ?_) (fun c_215 => ?_)
              · skip
                have c_215' := c_215
                try simp only [qq] at c_215'
                first | exact absurd c_215 (by decide) | (exfalso; simp at c_215; done) | (exfalso; simp at c_215; omega) | (exfalso; simp_all; done) | (exfalso; simp_all; omega)
              · skip
                have c_215' := c_215
                try simp only [qq] at c_215'
                refine aw_skip (aw_seq (aw_seq (aw_region (mvs rfl J (mvs rfl J (sq_ev rfl (ev_call en50 J (h50) ⟨J, J, trivial⟩) ?_))))))
                refine sq_ev rfl (ev_not J) ?_
                refine sq_nil ?_
                refine aw_cond J (fun c_219 => ?_) (fun c_219 => ?_)
                · skip
                  have c_219' := c_219
                  try simp only [qq] at c_219'
                  first | exact absurd c_219 (by decide) | (exfalso; simp at c_219; done) | (exfalso; simp at c_219; omega) | (exfalso; simp_all; done) | (exfalso; simp_all; omega)
                · skip
                  have c_219' := c_219
                  try simp only [qq] at c_219'
                  refine aw_skip (aw_seq (aw_region (mvr J rfl (sq_ev rfl (ev_eql J J) ?_))))
                  refine mvr J rfl (ymr rfl rfl J rfl J (sq_yes rfl rfl J rfl (ev_fieldAddr fo73_0 J) ?_))
                  refine sq_yes rfl rfl J rfl (ev_load J rfl ty3 rfl) ?_
                  refine sq_yes rfl rfl J rfl (ev_lss J J) ?_
                  refine ymr rfl rfl J rfl J ?_
                  refine sq_split 228 J (fun g17_7 => ?_) (fun g17_7 => ?_)
                  · skip
                    have g17_7' := g17_7
                    try simp only [qq] at g17_7'
                    refine sq_no rfl rfl (less_b g17_7) rfl rfl ?_
                    refine sq_no rfl rfl (less_b g17_7) rfl rfl ?_
                    refine sq_no rfl rfl (less_b g17_7) rfl rfl ?_
                    refine sq_no rfl rfl (less_b g17_7) rfl rfl ?_
                    refine sq_no rfl rfl (less_b g17_7) rfl rfl ?_
                    refine sq_no rfl rfl J rfl rfl (sq_no rfl rfl J rfl rfl (sq_no rfl rfl J rfl rfl (sq_no rfl rfl J rfl rfl (sq_no rfl rfl (less_b g17_7) rfl rfl ?_))))
                    refine sq_yes rfl rfl J rfl (ev_pickT (v := .raw _) (less_b g17_7) J) ?_
                    refine sq_ev rfl (ev_pickT (v := .raw _) J J) ?_
                    refine mvr J rfl ?_
                    refine ysl rfl rfl J rfl J ?_
                    refine sq_yes rfl rfl J rfl (ev_fieldAddr fo73_1 J) ?_
                    refine sq_yes rfl rfl J rfl (ev_fieldAddr fo28_0 J) ?_
                    refine sq_yes rfl rfl J rfl (ev_load J rfl ty3 rfl) ?_
                    refine sq_yes rfl rfl J rfl (ev_call en51 J (h51) ⟨J, J, trivial⟩) ?_
                    refine sq_yes rfl rfl J rfl (ev_not J) ?_
                    refine sq_ev rfl (ev_pickT (v := .raw _) J J) ?_
                    refine mvr J rfl ?_
                    refine ysl rfl rfl J rfl J ?_
                    refine sq_yes rfl rfl J rfl (ev_fieldAddr fo73_1 J) ?_
                    refine sq_yes rfl rfl J rfl (ev_fieldAddr fo28_0 J) ?_
                    refine sq_yes rfl rfl J rfl (ev_load J rfl ty3 rfl) ?_
                    refine sq_yes rfl rfl J rfl (ev_call en51 J (h51') ⟨J, J, trivial⟩) ?_
                    refine sq_yes rfl rfl J rfl (ev_not J) ?_
                    refine sq_ev rfl (ev_pickT (v := .raw _) J J) ?_
                    refine mvr J rfl (sq_yes rfl rfl J rfl (ev_call en27 J (known_pure) trivial) ?_)
                    refine sq_ev rfl (ev_pickT (v := .raw _) J J) ?_
                    refine asr J rfl (sq_nil (aw_ret ?_))
                    exact retQ_pure (v := .raw _) rfl rfl J
                  · skip
                    have g17_7' := g17_7
                    try simp only [qq] at g17_7'
                    first | exact absurd g17_7 (by decide) | (exfalso; simp at g17_7; done) | (exfalso; simp at g17_7; omega) | (exfalso; simp_all; done) | (exfalso; simp_all; omega)
set_option maxRecDepth 20000 in
theorem told_some2 {x : Sn} {f1 f2 : Nat} {p1 p2 : Pc} {a b : Int} {t u v : List Int} {c d : List (List UInt8)} (hrb : -1000 ≤ x.r.nl ∧ x.r.nl ≤ x.r.nh ∧ x.r.nh ≤ 1000) (hf1 : f1 < x.l.length) (hf2 : f2 < x.l.length) (hlt : f1 < f2)
    (h34 : APure Tryz.prog 34 [figs x.l] (B true)) (h36 : APure Tryz.prog 36 [stA x.s, figs x.l, rcA x.r, B true] (I 0))
    (h49 : APure Tryz.prog 49 [figs x.l, rcA x.r, .agg [I f1, I p1.near, I p1.x, I p1.y]] (B true)) (h49' : APure Tryz.prog 49 [figs x.l, rcA x.r, .agg [I f2, I p2.near, I p2.x, I p2.y]] (B true))
    (h44 : APure Tryz.prog 44 [stA x.s, figs x.l, rcA x.r] (.tup [I a, I b, I 0])) (h45 : APure Tryz.prog 45 [stA x.s, figs x.l, rcA x.r, I f1] (.tup [ints t, I 0])) (h45' : APure Tryz.prog 45 [stA x.s, figs x.l, rcA x.r, I f2] (.tup [ints u, I 0]))
    (h28 : APure Tryz.prog 28 [stA x.s, fgA x.l[f1], pcA p1] (.tup [strs c, I 0])) (h28' : APure Tryz.prog 28 [stA x.s, fgA x.l[f2], pcA p2] (.tup [strs d, I 0]))
    (k44 : APure Tryz.prog 44 [stA x.s, figs (x.l.take 1), rcA x.r] (.tup [I 0, I 0, I 5])) (k45 : APure Tryz.prog 45 [stA x.s, figs (x.l.take 1), rcA x.r, I 0] (.tup [ints v, I 0])) (hv : (v.length : Int) = x.r.nh - x.r.nl + 1)
    (h29 : APure Tryz.prog 29 [stA x.s, strs c] (B true)) (h29' : APure Tryz.prog 29 [stA x.s, strs d] (B true)) (hab : 0 ≤ a ∧ a < b ∧ b < x.l.length) (h50 : APure Tryz.prog 50 [strs c, strs d] (B true)) (h51 : APure Tryz.prog 51 [ints t, I p1.near] (B false)) (h51' : APure Tryz.prog 51 [ints u, I p2.near] (B false)) (h1 : a = f1) (h2 : b ≤ f2) : APure Tryz.prog 8 [stA x.s, figs x.l, rcA x.r, .agg [I f1, I p1.near, I p1.x, I p1.y], .agg [I f2, I p2.near, I p2.x, I p2.y]] (B true) := by
  refine apure_of (rs := [.tmp 10]) Tryz.func8 rfl rfl (Nat.le_of_ble_eq_true rfl) (by simp [AV.pureL, AV.pureB, AV.pureE, pureE_map]) (by first | rfl | (simp [AV.pureL, AV.pureB, AV.pureE, pureE_map])) fun e0 he0 => ?_
  refine aw_seq (aw_region (sq_box rfl J rfl (sq_box rfl J rfl (sq_box rfl J rfl (sq_box rfl J rfl ?_)))))
  refine asr J rfl (sq_nil (aw_seq (aw_seq (aw_region (mvs rfl J (sq_ev rfl (ev_call en34 J (h34) ⟨J, trivial⟩) ?_))))))
  refine sq_ev rfl (ev_not J) ?_
  refine mvr J rfl (sq_yes rfl rfl J rfl (ev_load_agg J rfl ty23 rfl) ?_)
  refine ysl rfl rfl J rfl J ?_
  refine sq_yes rfl rfl J rfl (ev_load_agg J rfl ty49 rfl) ?_
  refine sq_yes rfl rfl J rfl (ev_call en36 J (h36) ⟨J, J, J, J, trivial⟩) ?_
  refine sq_yes rfl rfl J rfl (ev_neq J J) ?_
  refine pf rfl J J (mvr J rfl ?_)
  refine ysl rfl rfl J rfl J ?_
  refine sq_yes rfl rfl J rfl (ev_load_agg J rfl ty49 rfl) ?_
  refine sq_yes rfl rfl J rfl (ev_load_agg J rfl ty73 rfl) ?_
  refine sq_yes rfl rfl J rfl (ev_call en49 J (h49) ⟨J, J, J, trivial⟩) ?_
  refine sq_yes rfl rfl J rfl (ev_not J) ?_
  refine pf rfl J J (mvr J rfl ?_)
  refine ysl rfl rfl J rfl J ?_
  refine sq_yes rfl rfl J rfl (ev_load_agg J rfl ty49 rfl) ?_
  refine sq_yes rfl rfl J rfl (ev_load_agg J rfl ty73 rfl) ?_
  refine sq_yes rfl rfl J rfl (ev_call en49 J (h49') ⟨J, J, J, trivial⟩) ?_
  refine sq_yes rfl rfl J rfl (ev_not J) ?_
  refine pf rfl J J (mvr J rfl (sq_yes rfl rfl J rfl (ev_fieldAddr fo73_0 J) ?_))
  refine sq_yes rfl rfl J rfl (ev_load J rfl ty3 rfl) ?_
  refine sq_yes rfl rfl J rfl (ev_fieldAddr fo73_0 J) ?_
  refine sq_yes rfl rfl J rfl (ev_load J rfl ty3 rfl) ?_
  refine sq_yes rfl rfl J rfl (ev_geq J J) ?_
  refine pf rfl J J (sq_nil ?_)
  refine aw_cond J (fun c_58 => ?_) (fun c_58 => ?_)
  · skip
    have c_58' := c_58
    try simp only [qq] at c_58'
    first | exact absurd c_58 (by decide) | (exfalso; simp at c_58; done) | (exfalso; simp at c_58; omega) | (exfalso; simp_all; done) | (exfalso; simp_all; omega)
  · skip
    have c_58' := c_58
    try simp only [qq] at c_58'
    refine aw_skip (aw_seq (aw_region (sq_ev rfl (ev_load_agg J rfl ty23 rfl) ?_)))
    refine mvs rfl J (sq_ev rfl (ev_load_agg J rfl ty49 rfl) ?_)
    refine sq_ev rfl (ev_call en44 J (h44) ⟨J, J, J, trivial⟩) ?_
    refine sq_ev rfl (ev_mv (v := .tup _) J) ?_
    refine xtr rfl J rfl (xtr rfl J rfl (xtr rfl J rfl ?_))
    refine asr J rfl (asr J rfl (asr J rfl (sq_nil (aw_seq (aw_region (sq_ev rfl (ev_load_agg J rfl ty23 rfl) ?_))))))
    refine mvs rfl J (sq_ev rfl (ev_load_agg J rfl ty49 rfl) ?_)
    refine sq_ev rfl (ev_fieldAddr fo73_0 J) ?_
    refine sq_ev rfl (ev_load J rfl ty3 rfl) ?_
    refine sq_ev rfl (ev_call en45 J (h45) ⟨J, J, J, J, trivial⟩) ?_
    refine sq_ev rfl (ev_mv (v := .tup _) J) ?_
    refine xtr rfl J rfl ?_
    refine xtr rfl J rfl (ass rfl J (asr J rfl (sq_nil (aw_seq (aw_region (sq_ev rfl (ev_load_agg J rfl ty23 rfl) ?_))))))
    refine mvs rfl J (sq_ev rfl (ev_load_agg J rfl ty49 rfl) ?_)
    refine sq_ev rfl (ev_fieldAddr fo73_0 J) ?_
    refine sq_ev rfl (ev_load J rfl ty3 rfl) ?_
    refine sq_ev rfl (ev_call en45 J (h45') ⟨J, J, J, J, trivial⟩) ?_
    refine sq_ev rfl (ev_mv (v := .tup _) J) ?_
    refine xtr rfl J rfl (xtr rfl J rfl (ass rfl J (asr J rfl (sq_nil (aw_seq ?_)))))
    refine aw_draw 14 mo (by kernel_rfl) ?_
    refine dr_ev rfl (ev_load_agg J rfl ty23 rfl) ?_
    refine dr_ev rfl (ev_mv (v := .sl _ _) J) ?_
    refine dr_ev rfl (ev_fieldAddr fo73_0 J) ?_
    refine dr_ev rfl (ev_load J rfl ty3 rfl) ?_
    refine dr_ev rfl (ev_index_map (k := f1) sl45 J J rfl hf1) ?_
    refine dr_ev rfl (ev_load_agg_i J ty26 (by exact Nat.le_of_ble_eq_true rfl)) ?_
    refine dr_ev rfl (ev_fieldAddr fo73_1 J) ?_
    refine dr_ev rfl (ev_load_agg J rfl ty28 rfl) ?_
    refine dr_ev rfl (ev_call en28 J (h28) ⟨J, J, J, trivial⟩) ?_
    refine dr_ev rfl (ev_mv (v := .tup _) J) ?_
    refine dr_ev rfl (ev_extract J rfl) ?_
    refine dr_ev rfl (ev_extract J rfl) ?_
    refine dr_ev rfl (ev_as (v := .sl _ _) J) ?_
    refine dr_ev rfl (ev_as (v := .raw _) J) ?_
    refine dr_end (sq_nil (aw_seq ?_))
    refine aw_draw 14 mo (by kernel_rfl) ?_
    refine dr_ev rfl (ev_load_agg J rfl ty23 rfl) ?_
    refine dr_ev rfl (ev_mv (v := .sl _ _) J) ?_
    refine dr_ev rfl (ev_fieldAddr fo73_0 J) ?_
    refine dr_ev rfl (ev_load J rfl ty3 rfl) ?_
    refine dr_ev rfl (ev_index_map (k := f2) sl45 J J rfl hf2) ?_
    refine dr_ev rfl (ev_load_agg_i J ty26 (by exact Nat.le_of_ble_eq_true rfl)) ?_
    refine dr_ev rfl (ev_fieldAddr fo73_1 J) ?_
    refine dr_ev rfl (ev_load_agg J rfl ty28 rfl) ?_
    refine dr_ev rfl (ev_call en28 J (h28') ⟨J, J, J, trivial⟩) ?_
    refine dr_ev rfl (ev_mv (v := .tup _) J) ?_
    refine dr_ev rfl (ev_extract J rfl) ?_
    refine dr_ev rfl (ev_extract J rfl) ?_
    refine dr_ev rfl (ev_as (v := .sl _ _) J) ?_
    refine dr_ev rfl (ev_as (v := .raw _) J) ?_
    refine dr_end (sq_nil (aw_seq ?_))
    refine aw_draw 12 mo (by kernel_rfl) ?_
    refine dr_ev rfl (ev_load_agg J rfl ty23 rfl) ?_
    refine dr_ev rfl (ev_mv (v := .sl _ _) J) ?_
    refine dr_ev rfl (ev_less (ev_slice (lo := 0) (hi := 1) sl45 J rfl J (by omega) (by simp; omega)) (Less.eq (b := figs (x.l.take 1)) (by simp [figs, List.map_take]))) ?_
    refine dr_ev rfl (ev_load_agg J rfl ty49 rfl) ?_
    refine dr_ev rfl (ev_call en44 J (k44) ⟨J, J, J, trivial⟩) ?_
    refine dr_ev rfl (ev_mv (v := .tup _) J) ?_
    refine dr_ev rfl (ev_extract J rfl) ?_
    refine dr_ev rfl (ev_extract J rfl) ?_
    refine dr_ev rfl (ev_extract J rfl) ?_
    refine dr_ev rfl (ev_as (v := .raw _) J) ?_
    refine dr_ev rfl (ev_as (v := .raw _) J) ?_
    refine dr_ev rfl (ev_as (v := .raw _) J) ?_
    refine dr_end (sq_nil (aw_seq ?_))
    refine aw_draw 10 mo (by kernel_rfl) ?_
    refine dr_ev rfl (ev_load_agg J rfl ty23 rfl) ?_
    refine dr_ev rfl (ev_mv (v := .sl _ _) J) ?_
    refine dr_ev rfl (ev_less (ev_slice (lo := 0) (hi := 1) sl45 J rfl J (by omega) (by simp; omega)) (Less.eq (b := figs (x.l.take 1)) (by simp [figs, List.map_take]))) ?_
    refine dr_ev rfl (ev_load_agg J rfl ty49 rfl) ?_
    refine dr_ev rfl (ev_call en45 J (k45) ⟨J, J, J, J, trivial⟩) ?_
    refine dr_ev rfl (ev_mv (v := .tup _) J) ?_
    refine dr_ev rfl (ev_extract J rfl) ?_
    refine dr_ev rfl (ev_extract J rfl) ?_
    refine dr_ev rfl (ev_as (v := .sl _ _) J) ?_
    refine dr_ev rfl (ev_as (v := .raw _) J) ?_
    refine dr_end (sq_nil (aw_seq (aw_region (sq_ev rfl (ev_fieldAddr fo49_0 J) ?_))))
    refine sq_ev rfl (ev_fieldAddr fo47_1 J) ?_
    refine sq_ev rfl (ev_load J rfl ty3 rfl) ?_
    refine sq_ev rfl (ev_fieldAddr fo49_0 J) ?_
    refine sq_ev rfl (ev_fieldAddr fo47_0 J) ?_
    refine sq_ev rfl (ev_load J rfl ty3 rfl) ?_
    refine sq_ev rfl (ev_sub J J (wr (by omega) (by omega))) ?_
    refine sq_ev rfl (ev_add J J (wr (by omega) (by omega))) ?_
    refine asr J rfl (sq_nil (aw_seq (aw_seq (aw_region (mvr J rfl (sq_ev rfl (ev_neq J J) ?_))))))
    refine mvr J rfl (sq_no rfl rfl J rfl rfl (sq_no rfl rfl J rfl rfl (pf rfl J J (mvr J rfl (ymr rfl rfl J rfl J (sq_yes rfl rfl J rfl (ev_neq J J) ?_))))))
    refine pf rfl J J (mvr J rfl (ymr rfl rfl J rfl J (sq_yes rfl rfl J rfl (ev_neq J J) ?_)))
    refine pf rfl J J (mvr J rfl (ymr rfl rfl J rfl J (sq_yes rfl rfl J rfl (ev_neq J J) ?_)))
    refine pf rfl J J (mvr J rfl (ymr rfl rfl J rfl J (sq_yes rfl rfl J rfl (ev_neq J J) ?_)))
    refine pf rfl J J (mvr J rfl (ymr rfl rfl J rfl J (sq_yes rfl rfl J rfl (ev_neq J J) ?_)))
    refine pf rfl J J (mvr J rfl (ymr rfl rfl J rfl J (sq_yes rfl rfl J rfl (ev_neq J J) ?_)))
    refine pf rfl J J (mvr J rfl ?_)
    refine ysl rfl rfl J rfl J ?_
    refine sq_yes rfl rfl J rfl (ev_len_map sl64 J) ?_
    refine ymr rfl rfl J rfl J (sq_yes rfl rfl J rfl (ev_neq J J) ?_)
    refine pf rfl J J (mvr J rfl ?_)
    refine sq_split 171 J (fun g11_36 => ?_) (fun g11_36 => ?_)
    · skip
      have g11_36' := g11_36
      try simp only [qq] at g11_36'
      first | exact absurd g11_36 (by decide) | (exfalso; simp at g11_36; done) | (exfalso; simp at g11_36; omega) | (exfalso; simp_all; done) | (exfalso; simp_all; omega)
    · skip
      have g11_36' := g11_36
      try simp only [qq] at g11_36'
      refine sq_yes rfl rfl (less_b g11_36) rfl (ev_load_agg J rfl ty23 rfl) ?_
      refine sq_yes rfl rfl (less_b g11_36) rfl (ev_mv (v := .sl _ _) J) ?_
      refine sq_yes rfl rfl (less_b g11_36) rfl (ev_call en29 J (h29) ⟨J, J, trivial⟩) ?_
      refine sq_yes rfl rfl (less_b g11_36) rfl (ev_not J) ?_
      refine sq_ev rfl (ev_pickF (v := .raw _) (less_b g11_36) J) ?_
      refine mvr J rfl ?_
      refine sq_split 177 J (fun g11_42 => ?_) (fun g11_42 => ?_)
      · skip
        have g11_42' := g11_42
        try simp only [qq] at g11_42'
        first | exact absurd g11_42 (by decide) | (exfalso; simp at g11_42; done) | (exfalso; simp at g11_42; omega) | (exfalso; simp_all; done) | (exfalso; simp_all; omega)
      · skip
        have g11_42' := g11_42
        try simp only [qq] at g11_42'
        refine sq_yes rfl rfl (less_b g11_42) rfl (ev_load_agg J rfl ty23 rfl) ?_
        refine sq_yes rfl rfl (less_b g11_42) rfl (ev_mv (v := .sl _ _) J) ?_
        refine sq_yes rfl rfl (less_b g11_42) rfl (ev_call en29 J (h29') ⟨J, J, trivial⟩) ?_
        refine sq_yes rfl rfl (less_b g11_42) rfl (ev_not J) ?_
        refine sq_ev rfl (ev_pickF (v := .raw _) (less_b g11_42) J) ?_
        refine sq_nil ?_
        refine aw_cond J (fun c_182 => ?_) (fun c_182 => ?_)
        · skip
          have c_182' := c_182
          try simp only [qq] at c_182'
          first | exact absurd c_182 (by decide) | (exfalso; simp at c_182; done) | (exfalso; simp at c_182; omega) | (exfalso; simp_all; done) | (exfalso; simp_all; omega)
        · skip
          have c_182' := c_182
          try simp only [qq] at c_182'
          refine aw_skip (aw_seq (aw_seq (aw_region (mvr J rfl (sq_ev rfl (ev_eql J J) ?_)))))
          refine mvr J rfl ?_
          refine sq_no rfl rfl J rfl rfl (sq_no rfl rfl J rfl rfl (sq_no rfl rfl J rfl rfl (sq_no rfl rfl J rfl rfl (sq_no rfl rfl J rfl rfl (sq_no rfl rfl J rfl rfl (sq_no rfl rfl J rfl rfl ?_))))))
          refine sq_no rfl rfl J rfl rfl (sq_no rfl rfl J rfl rfl (sq_no rfl rfl J rfl rfl (pf rfl J J (mvr J rfl (ymr rfl rfl J rfl J (sq_yes rfl rfl J rfl (ev_eql J J) ?_))))))
          refine ymr rfl rfl J rfl J (ymr rfl rfl J rfl J (sq_yes rfl rfl J rfl (ev_lss J J) ?_))
          refine ymr rfl rfl J rfl J ?_
          refine sq_split 203 J (fun g13_20 => ?_) (fun g13_20 => ?_)
          · skip
            have g13_20' := g13_20
            try simp only [qq] at g13_20'
            first | exact absurd g13_20 (by decide) | (exfalso; simp at g13_20; done) | (exfalso; simp at g13_20; omega) | (exfalso; simp_all; done) | (exfalso; simp_all; omega)
          · skip
            have g13_20' := g13_20
            try simp only [qq] at g13_20'
            refine sq_yes rfl rfl (less_b g13_20) rfl (ev_mv (v := .raw _) J) ?_
            refine sq_yes rfl rfl (less_b g13_20) rfl (ev_mv (v := .raw _) J) ?_
            refine sq_yes rfl rfl (less_b g13_20) rfl (ev_geq J J) ?_
            refine sq_yes rfl rfl J rfl (ev_pickF (v := .raw _) (less_b g13_20) J) ?_
            refine ymr rfl rfl J rfl J ?_
            refine sq_split 208 J (fun g13_25 => ?_) (fun g13_25 => ?_)
            · skip
              have g13_25' := g13_25
              try simp only [qq] at g13_25'
              first | exact absurd g13_25 (by decide) | (exfalso; simp at g13_25; done) | (exfalso; simp at g13_25; omega) | (exfalso; simp_all; done) | (exfalso; simp_all; omega)
            · skip
              have g13_25' := g13_25
              try simp only [qq] at g13_25'
              refine sq_yes rfl rfl (less_b g13_25) rfl (ev_mv (v := .raw _) J) ?_
              refine sq_yes rfl rfl (less_b g13_25) rfl (ev_mv (v := .sl _ _) J) ?_
              refine sq_yes rfl rfl (less_b g13_25) rfl (ev_len_map sl45 J) ?_
              refine sq_yes rfl rfl (less_b g13_25) rfl (ev_geq J J) ?_
              refine sq_yes rfl rfl J rfl (ev_pickF (v := .raw _) (less_b g13_25) J) ?_
              refine sq_yes rfl rfl J rfl (ev_pickT (v := .raw _) J J) ?_
              refine pf rfl J J (sq_nil ?_)
              refine aw_cond J (fun c_215 => ?_) (fun c_215 => ?_)
              · skip
                have c_215' := c_215
                try simp only [qq] at c_215'
                first | exact absurd c_215 (by decide) | (exfalso; simp at c_215; done) | (exfalso; simp at c_215; omega) | (exfalso; simp_all; done) | (exfalso; simp_all; omega)
              · skip
                have c_215' := c_215
                try simp only [qq] at c_215'
                refine aw_skip (aw_seq (aw_seq (aw_region (mvs rfl J (mvs rfl J (sq_ev rfl (ev_call en50 J (h50) ⟨J, J, trivial⟩) ?_))))))
                refine sq_ev rfl (ev_not J) ?_
                refine sq_nil ?_
                refine aw_cond J (fun c_219 => ?_) (fun c_219 => ?_)
                · skip
                  have c_219' := c_219
                  try simp only [qq] at c_219'
                  first | exact absurd c_219 (by decide) | (exfalso; simp at c_219; done) | (exfalso; simp at c_219; omega) | (exfalso; simp_all; done) | (exfalso; simp_all; omega)
                · skip
                  have c_219' := c_219
                  try simp only [qq] at c_219'
                  refine aw_skip (aw_seq (aw_region (mvr J rfl (sq_ev rfl (ev_eql J J) ?_))))
                  refine mvr J rfl (ymr rfl rfl J rfl J (sq_yes rfl rfl J rfl (ev_fieldAddr fo73_0 J) ?_))
                  refine sq_yes rfl rfl J rfl (ev_load J rfl ty3 rfl) ?_
                  refine sq_yes rfl rfl J rfl (ev_lss J J) ?_
                  refine ymr rfl rfl J rfl J ?_
                  refine sq_split 228 J (fun g17_7 => ?_) (fun g17_7 => ?_)
                  · skip
                    have g17_7' := g17_7
                    try simp only [qq] at g17_7'
                    first | exact absurd g17_7 (by decide) | (exfalso; simp at g17_7; done) | (exfalso; simp at g17_7; omega) | (exfalso; simp_all; done) | (exfalso; simp_all; omega)
                  · skip
                    have g17_7' := g17_7
                    try simp only [qq] at g17_7'
                    refine sq_yes rfl rfl (less_b g17_7) rfl (ev_mv (v := .raw _) J) ?_
                    refine sq_yes rfl rfl (less_b g17_7) rfl (ev_fieldAddr fo73_0 J) ?_
                    refine sq_yes rfl rfl (less_b g17_7) rfl (ev_load J rfl ty3 rfl) ?_
                    refine sq_yes rfl rfl (less_b g17_7) rfl (ev_eql J J) ?_
                    refine sq_yes rfl rfl (less_b g17_7) rfl (ev_mv (v := .raw _) J) ?_
                    refine sq_split 233 J (fun g17_12 => ?_) (fun g17_12 => ?_)
                    · skip
                      have g17_12' := g17_12
                      try simp only [qq] at g17_12'
                      refine sq_yes rfl rfl (less_b g17_12) rfl (ev_mv (v := .raw _) J) ?_
                      refine sq_yes rfl rfl (less_b g17_12) rfl (ev_fieldAddr fo73_0 J) ?_
                      refine sq_yes rfl rfl (less_b g17_12) rfl (ev_load J rfl ty3 rfl) ?_
                      refine sq_yes rfl rfl (less_b g17_12) rfl (ev_leq J J) ?_
                      refine sq_yes rfl rfl (less_b g17_7) rfl (ev_pickT (v := .raw _) (less_b g17_12) J) ?_
                      refine sq_yes rfl rfl J rfl (ev_pickF (v := .raw _) (less_b g17_7) J) ?_
                      refine sq_ev rfl (ev_pickT (v := .raw _) J J) ?_
                      refine mvr J rfl ?_
                      refine sq_split 241 J (fun g17_20 => ?_) (fun g17_20 => ?_)
                      · skip
                        have g17_20' := g17_20
                        try simp only [qq] at g17_20'
                        refine sq_yes rfl rfl (less_b g17_20) rfl (ev_mv (v := .sl _ _) J) ?_
                        refine sq_yes rfl rfl (less_b g17_20) rfl (ev_fieldAddr fo73_1 J) ?_
                        refine sq_yes rfl rfl (less_b g17_20) rfl (ev_fieldAddr fo28_0 J) ?_
                        refine sq_yes rfl rfl (less_b g17_20) rfl (ev_load J rfl ty3 rfl) ?_
                        refine sq_yes rfl rfl (less_b g17_20) rfl (ev_call en51 J (h51) ⟨J, J, trivial⟩) ?_
                        refine sq_yes rfl rfl (less_b g17_20) rfl (ev_not J) ?_
                        refine sq_ev rfl (ev_pickT (v := .raw _) (less_b g17_20) J) ?_
                        refine mvr J rfl ?_
                        refine sq_split 249 J (fun g17_28 => ?_) (fun g17_28 => ?_)
                        · skip
                          have g17_28' := g17_28
                          try simp only [qq] at g17_28'
                          refine sq_yes rfl rfl (less_b g17_28) rfl (ev_mv (v := .sl _ _) J) ?_
                          refine sq_yes rfl rfl (less_b g17_28) rfl (ev_fieldAddr fo73_1 J) ?_
                          refine sq_yes rfl rfl (less_b g17_28) rfl (ev_fieldAddr fo28_0 J) ?_
                          refine sq_yes rfl rfl (less_b g17_28) rfl (ev_load J rfl ty3 rfl) ?_
                          refine sq_yes rfl rfl (less_b g17_28) rfl (ev_call en51 J (h51') ⟨J, J, trivial⟩) ?_
                          refine sq_yes rfl rfl (less_b g17_28) rfl (ev_not J) ?_
                          refine sq_ev rfl (ev_pickT (v := .raw _) (less_b g17_28) J) ?_
                          refine mvr J rfl ?_
                          refine sq_split 257 J (fun g17_36 => ?_) (fun g17_36 => ?_)
                          · skip
                            have g17_36' := g17_36
                            try simp only [qq] at g17_36'
                            refine sq_yes rfl rfl (less_b g17_36) rfl (ev_call en27 J (known_pure) trivial) ?_
                            refine sq_ev rfl (ev_pickT (v := .raw _) (less_b g17_36) J) ?_
                            refine asr J rfl (sq_nil (aw_ret ?_))
                            exact retQ_pure (v := .raw _) rfl rfl J
                          · skip
                            have g17_36' := g17_36
                            try simp only [qq] at g17_36'
                            first | exact absurd g17_36 (by decide) | (exfalso; simp at g17_36; done) | (exfalso; simp at g17_36; omega) | (exfalso; simp_all; done) | (exfalso; simp_all; omega)
                        · skip
                          have g17_28' := g17_28
                          try simp only [qq] at g17_28'
                          first | exact absurd g17_28 (by decide) | (exfalso; simp at g17_28; done) | (exfalso; simp at g17_28; omega) | (exfalso; simp_all; done) | (exfalso; simp_all; omega)
                      · skip
                        have g17_20' := g17_20
                        try simp only [qq] at g17_20'
                        first | exact absurd g17_20 (by decide) | (exfalso; simp at g17_20; done) | (exfalso; simp at g17_20; omega) | (exfalso; simp_all; done) | (exfalso; simp_all; omega)
                    · skip
                      have g17_12' := g17_12
                      try simp only [qq] at g17_12'
                      first | exact absurd g17_12 (by decide) | (exfalso; simp at g17_12; done) | (exfalso; simp at g17_12; omega) | (exfalso; simp_all; done) | (exfalso; simp_all; omega)
theorem told_gate (x : Sn) (f1 f2 : Int) (p1 p2 : Pc) (hg : (fewB x.l && (decide (askE x true = 0) && (readB x.l.length x.r f1 p1 && (readB x.l.length x.r f2 p2 && decide (f1 < f2))))) = false) : APure Tryz.prog 8 [stA x.s, figs x.l, rcA x.r, .agg [I f1, I p1.near, I p1.x, I p1.y], .agg [I f2, I p2.near, I p2.x, I p2.y]] (B true) := by
 refine apure_of (rs := [.tmp 10]) Tryz.func8 rfl rfl (Nat.le_of_ble_eq_true rfl) (by simp [AV.pureL, AV.pureB, AV.pureE, pureE_map]) (by first | rfl | (simp [AV.pureL, AV.pureB, AV.pureE, pureE_map])) fun e0 he0 => ?_
 refine aw_seq (aw_region (sq_box rfl J rfl (sq_box rfl J rfl (sq_box rfl J rfl (sq_box rfl J rfl ?_)))))
 refine asr J rfl (sq_nil (aw_seq (aw_seq (aw_region (mvs rfl J (sq_ev rfl (ev_call en34 J (few_pure x.l) ⟨J, trivial⟩) ?_))))))
 refine sq_ev rfl (ev_not J) ?_
 refine mvr J rfl ?_
 refine sq_split 31 J (fun g1_3 => ?_) (fun g1_3 => ?_)
 ·
  have g1_3' := g1_3
  try simp only [qq] at g1_3'
  refine sq_no rfl rfl (less_b g1_3) rfl rfl ?_
  refine sq_no rfl rfl (less_b g1_3) rfl rfl ?_
  refine sq_no rfl rfl (less_b g1_3) rfl rfl ?_
  refine sq_no rfl rfl (less_b g1_3) rfl rfl ?_
  refine sq_no rfl rfl (less_b g1_3) rfl rfl ?_
  refine sq_ev rfl (ev_pickT (v := .raw _) (less_b g1_3) J) ?_
  refine mvr J rfl (sq_no rfl rfl J rfl rfl (sq_no rfl rfl J rfl rfl (sq_no rfl rfl J rfl rfl (sq_no rfl rfl J rfl rfl (sq_no rfl rfl J rfl rfl (sq_ev rfl (ev_pickT (v := .raw _) J J) ?_))))))
  refine mvr J rfl (sq_no rfl rfl J rfl rfl (sq_no rfl rfl J rfl rfl (sq_no rfl rfl J rfl rfl (sq_no rfl rfl J rfl rfl (sq_no rfl rfl J rfl rfl (sq_ev rfl (ev_pickT (v := .raw _) J J) ?_))))))
  refine mvr J rfl (sq_no rfl rfl J rfl rfl (sq_no rfl rfl J rfl rfl (sq_no rfl rfl J rfl rfl (sq_no rfl rfl J rfl rfl (sq_no rfl rfl J rfl rfl (sq_ev rfl (ev_pickT (v := .raw _) J J) ?_))))))
  refine sq_nil ?_
  refine aw_true J ?_
  refine aw_seq (aw_region (sq_ev rfl (ev_call en27 J (known_pure) trivial) ?_))
  refine asr J rfl (sq_nil (aw_ret ?_))
  exact retQ_pure (v := .raw _) rfl rfl J
 have g1_3' := g1_3
 try simp only [qq] at g1_3'
 refine sq_yes rfl rfl (less_b g1_3) rfl (ev_load_agg J rfl ty23 rfl) ?_
 refine sq_yes rfl rfl (less_b g1_3) rfl (ev_mv (v := .sl _ _) J) ?_
 refine sq_yes rfl rfl (less_b g1_3) rfl (ev_load_agg J rfl ty49 rfl) ?_
 refine sq_yes rfl rfl (less_b g1_3) rfl (ev_call en36 J (asked_pure x true) ⟨J, J, J, J, trivial⟩) ?_
 refine sq_yes rfl rfl (less_b g1_3) rfl (ev_neq J J) ?_
 refine sq_ev rfl (ev_pickF (v := .raw _) (less_b g1_3) J) ?_
 refine mvr J rfl ?_
 refine sq_split 38 J (fun g1_10 => ?_) (fun g1_10 => ?_)
 ·
  have g1_10' := g1_10
  try simp only [qq] at g1_10'
  refine sq_no rfl rfl (less_b g1_10) rfl rfl ?_
  refine sq_no rfl rfl (less_b g1_10) rfl rfl ?_
  refine sq_no rfl rfl (less_b g1_10) rfl rfl ?_
  refine sq_no rfl rfl (less_b g1_10) rfl rfl ?_
  refine sq_no rfl rfl (less_b g1_10) rfl rfl ?_
  refine sq_ev rfl (ev_pickT (v := .raw _) (less_b g1_10) J) ?_
  refine mvr J rfl (sq_no rfl rfl J rfl rfl (sq_no rfl rfl J rfl rfl (sq_no rfl rfl J rfl rfl (sq_no rfl rfl J rfl rfl (sq_no rfl rfl J rfl rfl (sq_ev rfl (ev_pickT (v := .raw _) J J) ?_))))))
  refine mvr J rfl (sq_no rfl rfl J rfl rfl (sq_no rfl rfl J rfl rfl (sq_no rfl rfl J rfl rfl (sq_no rfl rfl J rfl rfl (sq_no rfl rfl J rfl rfl (sq_ev rfl (ev_pickT (v := .raw _) J J) ?_))))))
  refine sq_nil ?_
  refine aw_true J ?_
  refine aw_seq (aw_region (sq_ev rfl (ev_call en27 J (known_pure) trivial) ?_))
  refine asr J rfl (sq_nil (aw_ret ?_))
  exact retQ_pure (v := .raw _) rfl rfl J
 have g1_10' := g1_10
 try simp only [qq] at g1_10'
 refine sq_yes rfl rfl (less_b g1_10) rfl (ev_mv (v := .sl _ _) J) ?_
 refine sq_yes rfl rfl (less_b g1_10) rfl (ev_load_agg J rfl ty49 rfl) ?_
 refine sq_yes rfl rfl (less_b g1_10) rfl (ev_load_agg J rfl ty73 rfl) ?_
 refine sq_yes rfl rfl (less_b g1_10) rfl (ev_call en49 J (reading_pure x.l x.r f1 p1) ⟨J, J, J, trivial⟩) ?_
 refine sq_yes rfl rfl (less_b g1_10) rfl (ev_not J) ?_
 refine sq_ev rfl (ev_pickF (v := .raw _) (less_b g1_10) J) ?_
 refine mvr J rfl ?_
 refine sq_split 45 J (fun g1_17 => ?_) (fun g1_17 => ?_)
 ·
  have g1_17' := g1_17
  try simp only [qq] at g1_17'
  refine sq_no rfl rfl (less_b g1_17) rfl rfl ?_
  refine sq_no rfl rfl (less_b g1_17) rfl rfl ?_
  refine sq_no rfl rfl (less_b g1_17) rfl rfl ?_
  refine sq_no rfl rfl (less_b g1_17) rfl rfl ?_
  refine sq_no rfl rfl (less_b g1_17) rfl rfl ?_
  refine sq_ev rfl (ev_pickT (v := .raw _) (less_b g1_17) J) ?_
  refine mvr J rfl (sq_no rfl rfl J rfl rfl (sq_no rfl rfl J rfl rfl (sq_no rfl rfl J rfl rfl (sq_no rfl rfl J rfl rfl (sq_no rfl rfl J rfl rfl (sq_ev rfl (ev_pickT (v := .raw _) J J) ?_))))))
  refine sq_nil ?_
  refine aw_true J ?_
  refine aw_seq (aw_region (sq_ev rfl (ev_call en27 J (known_pure) trivial) ?_))
  refine asr J rfl (sq_nil (aw_ret ?_))
  exact retQ_pure (v := .raw _) rfl rfl J
 have g1_17' := g1_17
 try simp only [qq] at g1_17'
 refine sq_yes rfl rfl (less_b g1_17) rfl (ev_mv (v := .sl _ _) J) ?_
 refine sq_yes rfl rfl (less_b g1_17) rfl (ev_load_agg J rfl ty49 rfl) ?_
 refine sq_yes rfl rfl (less_b g1_17) rfl (ev_load_agg J rfl ty73 rfl) ?_
 refine sq_yes rfl rfl (less_b g1_17) rfl (ev_call en49 J (reading_pure x.l x.r f2 p2) ⟨J, J, J, trivial⟩) ?_
 refine sq_yes rfl rfl (less_b g1_17) rfl (ev_not J) ?_
 refine sq_ev rfl (ev_pickF (v := .raw _) (less_b g1_17) J) ?_
 refine mvr J rfl ?_
 refine sq_split 52 J (fun g1_24 => ?_) (fun g1_24 => ?_)
 ·
  have g1_24' := g1_24
  try simp only [qq] at g1_24'
  refine sq_no rfl rfl (less_b g1_24) rfl rfl ?_
  refine sq_no rfl rfl (less_b g1_24) rfl rfl ?_
  refine sq_no rfl rfl (less_b g1_24) rfl rfl ?_
  refine sq_no rfl rfl (less_b g1_24) rfl rfl ?_
  refine sq_no rfl rfl (less_b g1_24) rfl rfl ?_
  refine sq_ev rfl (ev_pickT (v := .raw _) (less_b g1_24) J) ?_
  refine sq_nil ?_
  refine aw_true J ?_
  refine aw_seq (aw_region (sq_ev rfl (ev_call en27 J (known_pure) trivial) ?_))
  refine asr J rfl (sq_nil (aw_ret ?_))
  exact retQ_pure (v := .raw _) rfl rfl J
 have g1_24' := g1_24
 try simp only [qq] at g1_24'
 refine sq_yes rfl rfl (less_b g1_24) rfl (ev_fieldAddr fo73_0 J) ?_
 refine sq_yes rfl rfl (less_b g1_24) rfl (ev_load J rfl ty3 rfl) ?_
 refine sq_yes rfl rfl (less_b g1_24) rfl (ev_fieldAddr fo73_0 J) ?_
 refine sq_yes rfl rfl (less_b g1_24) rfl (ev_load J rfl ty3 rfl) ?_
 refine sq_yes rfl rfl (less_b g1_24) rfl (ev_geq J J) ?_
 refine sq_ev rfl (ev_pickF (v := .raw _) (less_b g1_24) J) ?_
 refine sq_nil ?_
 refine aw_cond J (fun c_58 => ?_) (fun c_58 => ?_)
 ·
  have c_58' := c_58
  try simp only [qq] at c_58'
  refine aw_seq (aw_region (sq_ev rfl (ev_call en27 J (known_pure) trivial) ?_))
  refine asr J rfl (sq_nil (aw_ret ?_))
  exact retQ_pure (v := .raw _) rfl rfl J
 have c_58' := c_58
 try simp only [qq] at c_58'
 first | (exfalso; simp_all; done) | (exfalso; simp_all; omega)
end Go.Proofs.YtmbknoaneglilaaGreatDoor
namespace Go.Proofs.YtmbknoaneglilaaGreatDoor
open Go Go.Ab Ni Ol
theorem cell_ch (c : Ca) (k m : Int) : c.cell k m = 35 ∨ c.cell k m = 43 ∨ c.cell k m = 46 := by
  unfold Ca.cell Ca.cellAt
  split
  · exact .inl rfl
  · split
    · exact .inr (.inl rfl)
    · exact .inr (.inr rfl)
theorem shadow_row {c : Ca} {r : List UInt8} (h : r ∈ c.shadow) : r.length = c.s.wide.toNat ∧ ∀ b ∈ r, b = 35 ∨ b = 43 ∨ b = 46 := by
  unfold Ca.shadow at h
  obtain ⟨m, _, rfl⟩ := List.mem_map.1 h
  refine ⟨by simp [Ca.srow], fun b hb => ?_⟩
  unfold Ca.srow at hb
  obtain ⟨k, _, rfl⟩ := List.mem_map.1 hb
  exact cell_ch c _ _
theorem shadow_clo (c : Ca) : Clo c.s c.shadow := ⟨by simp [Ca.shadow], fun r hr => (shadow_row hr).1⟩
theorem clo_shp {s : Sg} {l : List (List UInt8)} (hs : stOK s = true) (h : Clo s l) : shp l := by
  have hb := stOK_iff.1 hs
  exact ⟨by rw [h.len]; omega, fun r hr => by rw [h.row r hr]; omega⟩
theorem shadow_whole {c : Ca} (hs : stOK c.s = true) : wholeB c.s c.shadow = true := by
  have hb := stOK_iff.1 hs
  unfold wholeB
  rw [Bool.and_eq_true]
  constructor
  · unfold siOK
    simp only [Bool.and_eq_true, decide_eq_true_eq, List.all_eq_true, siRow]
    refine ⟨by rw [(shadow_clo c).len]; omega, fun r hr => ?_⟩
    obtain ⟨h1, h2⟩ := shadow_row hr
    refine ⟨by omega, ?_⟩
    rw [Bool.not_eq_true', List.any_eq_false]
    intro b hb'
    rcases h2 b hb' with rfl | rfl | rfl <;> decide
  · rw [decide_eq_true_eq]
    unfold Ol.cnt
    have : ∀ L : List (List UInt8), (∀ r ∈ L, ∀ b ∈ r, b = 35 ∨ b = 43 ∨ b = 46) → (L.map fun r => ((r.count 63 : Nat) : Int)).sum = 0 := fun L => by
      induction L with
      | nil => intro _; rfl
      | cons r L ih =>
        intro h
        have h1 : r.count 63 = 0 := List.count_eq_zero.2 fun hm => by rcases h r (by simp) 63 hm with h | h | h <;> cases h
        rw [List.map_cons, List.sum_cons, h1, ih fun q hq => h q (by simp [hq])]; rfl
    exact this _ fun r hr => (shadow_row hr).2
theorem readB_iff {n : Nat} {r : Rc} {f : Int} {p : Pc} : readB n r f p = true ↔ (0 ≤ f ∧ f < n) ∧ (r.nl ≤ p.near ∧ p.near ≤ r.nh) ∧ (r.xl ≤ p.x ∧ p.x ≤ r.xh) ∧ p.y = r.y := by
  unfold readB; simp only [Bool.and_eq_true, decide_eq_true_eq]; omega
theorem read_mem {x : Sn} {f : Nat} {p : Pc} (hf : f < x.l.length) (h : readB x.l.length x.r f p = true) : (⟨⟨f, p⟩, (Ca.mk x.s x.l[f] p).shadow⟩ : Th) ∈ rdN x f := by
  obtain ⟨_, h2, h3, h4⟩ := readB_iff.1 h
  unfold rdN rdX
  refine List.mem_flatMap.2 ⟨p.near, mem_rng.2 h2, List.mem_map.2 ⟨p.x, mem_rng.2 h3, ?_⟩⟩
  unfold thrown
  rw [getD_get hf, ← h4]
theorem byF_get {x : Sn} {f : Nat} (hf : f < x.l.length) : (byF x).getD f [] = rdN x f := by
  rw [getD_get (by rw [byF_len]; exact hf)]
  simp [byF]
theorem askE_0 {x : Sn} {is : Bool} : askE x is = 0 ↔ snOK x = true ∧ is = true := by
  unfold askE
  by_cases h : (snOK x && is) = true
  · rw [if_pos h]; simp only [Bool.and_eq_true] at h; simp [h]
  · rw [if_neg h]; simp only [Bool.and_eq_true] at h
    exact ⟨(fun e => by cases e), fun e => absurd e h⟩
abbrev one (x : Sn) : Sn := ⟨x.s, x.l.take 1, x.r⟩
theorem one_ok {x : Sn} (h : snOK x = true) : snOK (one x) = true := by
  rw [snOK_eq] at h ⊢
  simp only [Bool.and_eq_true] at h ⊢
  obtain ⟨h1, h2, h3⟩ := h
  refine ⟨h1, ?_, h3⟩
  obtain ⟨h4, h5⟩ := coOK_facts h2
  rw [coOK_ref]
  simp only [Bool.and_eq_true, decide_eq_true_eq, List.all_eq_true, List.length_take]
  refine ⟨by omega, fun f hf => ?_, by omega⟩
  obtain ⟨i, hi, rfl⟩ := List.getElem_of_mem (List.mem_of_mem_take (List.mem_of_mem_take hf))
  exact h5 i hi
theorem one_len {x : Sn} (h : snOK x = true) : (one x).l.length = 1 := by
  have := (sn_facts h).1
  show (x.l.take 1).length = 1
  rw [List.length_take]; omega
theorem one_mis {x : Sn} (h : snOK x = true) : misOf (one x) = none := by
  have hl : (byF (one x)).length = 1 := by rw [byF_len, one_len h]
  unfold misOf
  refine pair_none fun a ha => ?_
  exact pairI_none ha fun j hj h1 => by omega
theorem one_told {x : Sn} (h : snOK x = true) : (toldOf (one x) 0).length = nN x := by
  unfold toldOf
  exact toldK_full (fun near => miss_free (one_mis h) (by rw [byF_len, one_len h]; omega) near)
theorem told_some {x : Sn} {f : Int} (h : snOK x = true) (hf : 0 ≤ f ∧ f < x.l.length) : tolOK x f = true := tol_3 h (by unfold inn; simp only [Bool.and_eq_true, decide_eq_true_eq]; omega)
theorem toldOf_len {x : Sn} (hx : snOK x = true) (f : Nat) : (toldOf x f).length ≤ 6 := by
  have h4 := rcOK_facts (sn_facts hx).2.2.1
  have a1 : nN x ≤ 6 := by unfold nN; omega
  unfold toldOf
  exact Nat.le_trans (toldK_len _ _ _ _) a1
theorem law8 (x : Sn) (f1 f2 : Int) (p1 p2 : Pc) : APure Tryz.prog 8 [stA x.s, figs x.l, rcA x.r, .agg [I f1, I p1.near, I p1.x, I p1.y], .agg [I f2, I p2.near, I p2.x, I p2.y]] (B true) := by
  cases hg : (fewB x.l && (decide (askE x true = 0) && (readB x.l.length x.r f1 p1 && (readB x.l.length x.r f2 p2 && decide (f1 < f2))))) with
  | false => exact told_gate x f1 f2 p1 p2 hg
  | true =>
    simp only [Bool.and_eq_true, decide_eq_true_eq] at hg
    obtain ⟨hfew, hask, hr1, hr2, hlt⟩ := hg
    have hxo := (askE_0.1 hask).1
    obtain ⟨hb1, hn1, hx1, hy1⟩ := readB_iff.1 hr1
    obtain ⟨hb2, hn2, hx2, hy2⟩ := readB_iff.1 hr2
    obtain ⟨n1, rfl⟩ : ∃ n : Nat, f1 = n := ⟨f1.toNat, by omega⟩
    obtain ⟨n2, rfl⟩ : ∃ n : Nat, f2 = n := ⟨f2.toNat, by omega⟩
    have hl1 : n1 < x.l.length := by omega
    have hl2 : n2 < x.l.length := by omega
    have hl12 : n1 < n2 := by omega
    have hsz := fewB_sz hfew
    have hst := (sn_facts hxo).2.1
    have hrc := rcOK_facts (sn_facts hxo).2.2.1
    have hll : x.l.length ≤ 1000000 := by omega
    have hnn : ((nN x : Nat) : Int) = x.r.nh - x.r.nl + 1 := by unfold nN; omega
    have ca1 := ca_of hxo hl1 (n := p1.near) (k := p1.x) hn1 hx1
    have ca2 := ca_of hxo hl2 (n := p2.near) (k := p2.x) hn2 hx2
    have ec : ∀ (f : Nat) (hf : f < x.l.length) (p : Pc), readB x.l.length x.r f p = true → caOK ⟨x.s, x.l[f], p⟩ = true := fun f hf p hp => by
      obtain ⟨_, h2, h3, h4⟩ := readB_iff.1 hp
      unfold caOK
      simp only [Bool.and_eq_true]
      exact ⟨⟨hst, (sn_facts hxo).2.2.2 f hf⟩, pcOK_iff.2 ⟨by omega, by omega, by omega⟩⟩
    have e1 := ec n1 hl1 p1 hr1
    have e2 := ec n2 hl2 p2 hr2
    have k28 := shadowE_pure ⟨x.s, x.l[n1], p1⟩
    have k28' := shadowE_pure ⟨x.s, x.l[n2], p2⟩
    rw [if_pos e1, e1] at k28
    rw [if_pos e2, e2] at k28'
    have k45 := told_pure x n1 hll
    have k45' := told_pure x n2 hll
    rw [if_pos (told_some hxo hb1), told_some hxo hb1, Int.toNat_natCast] at k45
    rw [if_pos (told_some hxo hb2), told_some hxo hb2, Int.toNat_natCast] at k45'
    have k44 := mistaken_pure x hll
    have k44o := mistaken_pure (one x) (by have := one_len hxo; omega)
    have h1o : misE (one x) = (0, 0, 5) := by unfold misE; rw [if_pos (one_ok hxo), one_mis hxo]
    rw [h1o] at k44o
    have k45o := told_pure (one x) 0 (by have := one_len hxo; omega)
    have hto : tolOK (one x) 0 = true := told_some (one_ok hxo) ⟨by omega, by rw [one_len hxo]; decide⟩
    rw [if_pos hto, hto, show (0 : Int).toNat = 0 from rfl] at k45o
    have hv : ((toldOf (one x) 0).length : Int) = x.r.nh - x.r.nl + 1 := by rw [one_told hxo]; exact hnn
    have k34 : APure Tryz.prog 34 [figs x.l] (B true) := by have := few_pure x.l; rwa [hfew] at this
    have k36 : APure Tryz.prog 36 [stA x.s, figs x.l, rcA x.r, B true] (I 0) := by have := asked_pure x true; rwa [hask] at this
    have k49 : APure Tryz.prog 49 [figs x.l, rcA x.r, .agg [I n1, I p1.near, I p1.x, I p1.y]] (B true) := by have := reading_pure x.l x.r n1 p1; rwa [hr1] at this
    have k49' : APure Tryz.prog 49 [figs x.l, rcA x.r, .agg [I n2, I p2.near, I p2.x, I p2.y]] (B true) := by have := reading_pure x.l x.r n2 p2; rwa [hr2] at this
    have c1 := shadow_clo ⟨x.s, x.l[n1], p1⟩
    have c2 := shadow_clo ⟨x.s, x.l[n2], p2⟩
    have k29 : APure Tryz.prog 29 [stA x.s, strs (Ca.mk x.s x.l[n1] p1).shadow] (B true) := by have := whole_pure x.s (Ca.mk x.s x.l[n1] p1).shadow (clo_shp hst c1); rwa [shadow_whole (c := ⟨x.s, x.l[n1], p1⟩) hst] at this
    have k29' : APure Tryz.prog 29 [stA x.s, strs (Ca.mk x.s x.l[n2] p2).shadow] (B true) := by have := whole_pure x.s (Ca.mk x.s x.l[n2] p2).shadow (clo_shp hst c2); rwa [shadow_whole (c := ⟨x.s, x.l[n2], p2⟩) hst] at this
    have k50 := ragree_pure (clo_fit hst c1 c2)
    have m1 := read_mem hl1 hr1
    have m2 := read_mem hl2 hr2
    have hrb : -1000 ≤ x.r.nl ∧ x.r.nl ≤ x.r.nh ∧ x.r.nh ≤ 1000 := by have := stOK_iff.1 hst; omega
    have hms : agree (Ca.mk x.s x.l[n1] p1).shadow (Ca.mk x.s x.l[n2] p2).shadow = true → mists ((byF x).getD n1 []) ((byF x).getD n2 []) = true := fun h => by
      rw [byF_get hl1, byF_get hl2]; exact mists_iff.2 ⟨_, m1, _, m2, h⟩
    cases hm : misOf x with
    | none =>
      have hE : misE x = (0, 0, 5) := by unfold misE; rw [if_pos hxo, hm]
      rw [hE] at k44
      have ht : ∀ f : Nat, f < x.l.length → (((toldOf x f).length : Nat) : Int) = x.r.nh - x.r.nl + 1 := fun f hf => by
        have : (toldOf x f).length = nN x := toldK_full (fun near => miss_free hm (by rw [byF_len]; exact hf) near)
        rw [this]; exact hnn
      have hag : agree (Ca.mk x.s x.l[n1] p1).shadow (Ca.mk x.s x.l[n2] p2).shadow = false := by
        cases h : agree (Ca.mk x.s x.l[n1] p1).shadow (Ca.mk x.s x.l[n2] p2).shadow with
        | false => rfl
        | true =>
          have := pair_none_inv hm n1 n2 hl12 (by rw [byF_len]; exact hl2)
          rw [hms h] at this; cases this
      rw [hag] at k50
      exact told_none hrb hl1 hl2 hl12 k34 k36 k49 k49' k44 k45 k45' k28 k28' k44o k45o hv k29 k29' (ht n1 hl1) (ht n2 hl2) k50
    | some q =>
      obtain ⟨a, b⟩ := q
      have hE : misE x = ((a : Int), (b : Int), 0) := by unfold misE; rw [if_pos hxo, hm]
      have k44 : APure Tryz.prog 44 [stA x.s, figs x.l, rcA x.r] (.tup [I (a : Int), I (b : Int), I 0]) := by rw [hE] at k44; exact k44
      obtain ⟨⟨hab, hbl⟩, hmin⟩ := pair_some_inv hm
      rw [byF_len] at hbl hmin
      have hab' : 0 ≤ (a : Int) ∧ (a : Int) < b ∧ (b : Int) < x.l.length := by omega
      cases hag : agree (Ca.mk x.s x.l[n1] p1).shadow (Ca.mk x.s x.l[n2] p2).shadow with
      | false =>
        rw [hag] at k50
        exact told_some0 hrb hl1 hl2 hl12 k34 k36 k49 k49' k44 k45 k45' k28 k28' k44o k45o hv k29 k29' hab' k50
      | true =>
        rw [hag] at k50
        have hmi1 : missAt (byF x) n1 p1.near = true := missAt_of (t := ⟨⟨n1, p1⟩, _⟩) (k := n2) (by rw [byF_get hl1]; exact m1) (by rw [byF_len]; exact hl2) (by omega) (by rw [byF_get hl2]; exact List.any_eq_true.2 ⟨_, m2, hag⟩)
        have hmi2 : missAt (byF x) n2 p2.near = true := missAt_of (t := ⟨⟨n2, p2⟩, _⟩) (k := n1) (by rw [byF_get hl2]; exact m2) (by rw [byF_len]; exact hl1) (by omega) (by rw [byF_get hl1]; exact List.any_eq_true.2 ⟨_, m1, by rw [agree_symm]; exact hag⟩)
        have k51 := has_pure (toldOf x n1) p1.near (by have := toldOf_len hxo n1; omega)
        have k51' := has_pure (toldOf x n2) p2.near (by have := toldOf_len hxo n2; omega)
        rw [decide_eq_false (show p1.near ∉ toldOf x n1 from told_no hmi1)] at k51
        rw [decide_eq_false (show p2.near ∉ toldOf x n2 from told_no hmi2)] at k51'
        rcases hmin n1 n2 hl12 hl2 (hms hag) with h | ⟨h1, h2⟩
        · exact told_some1 hrb hl1 hl2 hl12 k34 k36 k49 k49' k44 k45 k45' k28 k28' k44o k45o hv k29 k29' hab' k50 k51 k51' (by omega)
        · exact told_some2 hrb hl1 hl2 hl12 k34 k36 k49 k49' k44 k45 k45' k28 k28' k44o k45o hv k29 k29' hab' k50 k51 k51' (by omega) (by omega)
end Go.Proofs.YtmbknoaneglilaaGreatDoor
