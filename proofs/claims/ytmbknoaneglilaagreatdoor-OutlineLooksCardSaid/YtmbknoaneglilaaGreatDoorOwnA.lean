/-
  A part of the proof: conditions: none beyond each theorem's own.
-/
import Derived.Test.YtmbknoaneglilaaGreatDoorSpecA
import Derived.Test.YtmbknoaneglilaaGreatDoorLogicD
import Derived.KernelRfl
import Derived.Lib.LaidTab
import Derived.Lib.ItoaNum
import Derived.Test.YtmbknoaneglilaaGreatDoorProg
import Derived.Test.YtmbknoaneglilaaGreatDoorWalkG
import Derived.ChangeKeysEq
import Derived.Test.YtmbknoaneglilaaGreatDoorLogicA
import Derived.Test.YtmbknoaneglilaaGreatDoorLogicB
import Derived.Test.YtmbknoaneglilaaGreatDoorLogicC
import Derived.Test.YtmbknoaneglilaaGreatDoorShelf
import Derived.Test.YtmbknoaneglilaaGreatDoorWalkA
import Derived.Test.YtmbknoaneglilaaGreatDoorWalkB
import Derived.Test.YtmbknoaneglilaaGreatDoorWalkC
import Derived.Test.YtmbknoaneglilaaGreatDoorWalkD
import Derived.Test.YtmbknoaneglilaaGreatDoorWalkE
import Derived.Test.YtmbknoaneglilaaGreatDoorWalkF
import Derived.Test.YtmbknoaneglilaaGreatDoorRow
set_option linter.all false
set_option maxHeartbeats 8000000
namespace Ol
open Ni (inn)
theorem addF_nodup {l : List Int} {n : Int} (h : l.Nodup) : (addF l n).Nodup := by
  unfold addF; split
  · exact h
  · rename_i hn; rw [List.nodup_append]; refine ⟨h, by simp, fun a ha b hb e => ?_⟩
    simp only [List.mem_singleton] at hb; subst hb; subst e; exact hn ha
theorem foldF_nodup : ∀ (l : List Th) (a : List Int), a.Nodup → (l.foldl (fun a t => addF a t.rd.fig) a).Nodup
  | [], _, h => h
  | t :: l, a, h => foldF_nodup l _ (addF_nodup h)
theorem seenF_nodup (l : List Th) : (seenF l).Nodup := foldF_nodup l [] List.nodup_nil
end Ol
namespace Ol
open Ni (inn)
theorem mists_iff {a b : List Th} : mists a b = true ↔ ∃ t ∈ a, ∃ u ∈ b, agree t.sh u.sh = true := by
  unfold mists mist; simp only [List.any_eq_true]
theorem pairI_inv {L : List (List Th)} {i : Nat} (h : pairI L i = none) : ∀ k, i < k → k < L.length → mists (L.getD i []) (L.getD k []) = false := by
  intro k hik hk
  unfold pairI at h
  cases hf : (List.range L.length).find? (fun k => decide (i < k) && mists (L.getD i []) (L.getD k [])) with
  | some q => rw [hf] at h; cases h
  | none =>
    rw [List.find?_eq_none] at hf
    have := hf k (List.mem_range.2 hk)
    simpa [hik] using this
theorem pair_none_inv {L : List (List Th)} (h : pairOf L = none) : ∀ i k, i < k → k < L.length → mists (L.getD i []) (L.getD k []) = false := by
  intro i k hik hk
  unfold pairOf at h
  rw [List.findSome?_eq_none_iff] at h
  exact pairI_inv (h i (List.mem_range.2 (by omega))) k hik hk
theorem findSome_inv {α : Type} {f : Nat → Option α} : ∀ {n : Nat} {a : α}, (List.range n).findSome? f = some a → ∃ i, i < n ∧ f i = some a ∧ ∀ j, j < i → f j = none
  | 0, a, h => by simp at h
  | n + 1, a, h => by
    rw [List.range_succ, List.findSome?_append] at h
    cases hp : (List.range n).findSome? f with
    | some b =>
      rw [hp] at h; simp only [Option.some_or, Option.some.injEq] at h; subst h
      obtain ⟨i, h1, h2, h3⟩ := findSome_inv hp
      exact ⟨i, by omega, h2, h3⟩
    | none =>
      rw [hp] at h
      rw [List.findSome?_eq_none_iff] at hp
      refine ⟨n, by omega, by simpa using h, fun j hj => hp j (List.mem_range.2 hj)⟩
theorem pair_some_inv {L : List (List Th)} {a b : Nat} (h : pairOf L = some (a, b)) : (a < b ∧ b < L.length) ∧ ∀ i k, i < k → k < L.length → mists (L.getD i []) (L.getD k []) = true → a < i ∨ (a = i ∧ b ≤ k) := by
  obtain ⟨i0, hi0, hp, hno⟩ := findSome_inv h
  have hp' := hp
  unfold pairI at hp'
  cases hf : (List.range L.length).find? (fun k => decide (i0 < k) && mists (L.getD i0 []) (L.getD k [])) with
  | none => rw [hf] at hp'; cases hp'
  | some q =>
    rw [hf] at hp'
    simp only [Option.map_some, Option.some.injEq, Prod.mk.injEq] at hp'
    obtain ⟨rfl, rfl⟩ := hp'
    rw [List.find?_range_eq_some] at hf
    obtain ⟨h1, h2, h3⟩ := hf
    simp only [Bool.and_eq_true, decide_eq_true_eq] at h1
    refine ⟨⟨h1.1, List.mem_range.1 h2⟩, fun i k hik hk hm => ?_⟩
    rcases Nat.lt_trichotomy i0 i with h | h | h
    · exact .inl h
    · subst h
      refine .inr ⟨rfl, ?_⟩
      rcases Nat.lt_or_ge k q with hq | hq
      · have := h3 k hq
        simp only [hik, decide_true, Bool.true_and, hm, Bool.not_true] at this
        cases this
      · exact hq
    · have := pairI_inv (hno i h) k hik hk
      rw [hm] at this; cases this
end Ol
namespace Ol
open Ni (inn)
theorem cnt_le (ch : UInt8) (w : Nat) : ∀ (l : List (List UInt8)), (∀ r ∈ l, r.length ≤ w) → 0 ≤ cnt ch l ∧ cnt ch l ≤ (l.length : Int) * w
  | [], _ => by simp [cnt]
  | r :: l, h => by
    have ih := cnt_le ch w l fun q hq => h q (by simp [hq])
    have h1 := h r (by simp)
    have h2 := List.count_le_length (a := ch) (l := r)
    unfold cnt at ih ⊢
    rw [List.map_cons, List.sum_cons, List.length_cons]
    rw [show ((l.length + 1 : Nat) : Int) * (w : Int) = (l.length : Int) * w + w by rw [Int.natCast_add, Int.add_mul]; simp]
    omega
theorem cnt_pos {ch : UInt8} {l : List (List UInt8)} : 0 < cnt ch l ↔ ∃ r ∈ l, ch ∈ r := by
  induction l with
  | nil => simp [cnt]
  | cons r l ih =>
    have h0 : 0 ≤ cnt ch l := (cnt_le ch ((l.map List.length).sum + 0) l (fun q hq => by
      have : ∀ (L : List (List UInt8)), q ∈ L → q.length ≤ (L.map List.length).sum := fun L => by
        induction L with
        | nil => intro h; cases h
        | cons a L ih => intro h; rw [List.map_cons, List.sum_cons]; rcases List.mem_cons.1 h with rfl | h; omega; have := ih h; omega
      have := this l hq; omega)).1
    have e : cnt ch (r :: l) = (r.count ch : Int) + cnt ch l := by unfold cnt; rw [List.map_cons, List.sum_cons]
    rw [e]
    constructor
    · intro h
      by_cases h1 : ch ∈ r
      · exact ⟨r, by simp, h1⟩
      · rw [List.count_eq_zero.2 h1] at h
        obtain ⟨q, hq, h2⟩ := ih.1 (by simpa using h)
        exact ⟨q, by simp [hq], h2⟩
    · rintro ⟨q, hq, h2⟩
      rcases List.mem_cons.1 hq with rfl | hq
      · have := List.count_pos_iff.2 h2; omega
      · have := ih.2 ⟨q, hq, h2⟩; omega
theorem wh_le {s : Sg} (hs : stOK s = true) : 1 ≤ s.wide * s.high ∧ s.wide * s.high ≤ 256 := by
  have hb := stOK_iff.1 hs
  have h1 := Int.mul_le_mul hb.1.2 hb.2.1.2 (by omega) (by omega)
  have h2 := Int.mul_le_mul hb.1.1 hb.2.1.1 (by omega) (by omega)
  omega
end Ol
namespace Ol
open Ni (inn)
theorem agree_iff {a b : List (List UInt8)} (hl : a.length ≤ b.length) (hr : ∀ m, (h1 : m < a.length) → (h2 : m < b.length) → a[m].length ≤ b[m].length) :
    agree a b = true ↔ ∀ m k, (h1 : m < a.length) → (h2 : m < b.length) → (h3 : k < a[m].length) → (h4 : k < b[m].length) → opp a[m][k] b[m][k] = false := by
  constructor
  · intro h m k h1 h2 h3 h4
    cases ho : opp a[m][k] b[m][k] with
    | false => rfl
    | true => rw [agree_no h1 h2 h3 h4 ho] at h; cases h
  · intro h
    exact agree_yes fun m k h1 h2 h3 h4 => h m k h1 h2 h3 h4
theorem opp_63 (a : UInt8) : opp a 63 = false := by unfold opp; simp
theorem agree_set {a b : List (List UInt8)} {r c : Nat} {ch : UInt8} (hl : a.length = b.length) (hw : ∀ m, (h1 : m < a.length) → (h2 : m < b.length) → a[m].length = b[m].length)
    (hr : r < b.length) (hc : c < b[r].length) (h63 : b[r][c] = 63) : agree a (b.set r (b[r].set c ch)) = (agree a b && !opp (a[r]'(by omega))[c]! ch) := by
  have hra : r < a.length := by omega
  have hca : c < a[r].length := by rw [hw r hra hr]; exact hc
  have hw' : ∀ m, (h1 : m < a.length) → (h2 : m < (b.set r (b[r].set c ch)).length) → a[m].length ≤ (b.set r (b[r].set c ch))[m].length := fun m h1 h2 => by
    rw [List.getElem_set]
    split
    · rename_i e; subst e; rw [List.length_set, hw r h1 hr]; exact Nat.le_refl _
    · rw [hw m h1 (by simpa using h2)]; exact Nat.le_refl _
  rw [getElem!_pos a[r] c hca, Bool.eq_iff_iff, Bool.and_eq_true, Bool.not_eq_true', agree_iff (by simp; omega) hw', agree_iff (by omega) fun m h1 h2 => by rw [hw m h1 h2]; exact Nat.le_refl _]
  constructor
  · intro h
    constructor
    · intro m k h1 h2 h3 h4
      by_cases e : m = r
      · subst e
        by_cases e2 : k = c
        · subst e2; rw [h63, opp_63]
        · have := h m k h1 (by simpa using h2) h3 (by simpa using h4)
          simpa [List.getElem_set, Ne.symm e2] using this
      · have := h m k h1 (by simpa using h2) h3 (by simpa [List.getElem_set, Ne.symm e] using h4)
        simpa [List.getElem_set, Ne.symm e] using this
    · have := h r c hra (by simpa using hr) hca (by simpa using hc)
      simpa using this
  · rintro ⟨h, ho⟩ m k h1 h2 h3 h4
    by_cases e : m = r
    · subst e
      by_cases e2 : k = c
      · subst e2; simpa using ho
      · have := h m k h1 hr h3 (by rw [← hw m h1 hr]; exact h3)
        simpa [List.getElem_set, Ne.symm e2] using this
    · have hb : m < b.length := by simpa using h2
      have := h m k h1 hb h3 (by rw [← hw m h1 hb]; exact h3)
      simpa [List.getElem_set, Ne.symm e] using this
theorem seenF_sub {l m : List Th} (h : ∀ t ∈ l, t ∈ m) : ∀ n ∈ seenF l, n ∈ seenF m := by
  have key : ∀ (l : List Th) (n : Int), n ∈ seenF l ↔ ∃ t ∈ l, (t.rd.fig : Int) = n := fun l n => by
    have gen : ∀ (l : List Th) (a : List Int), n ∈ l.foldl (fun a t => addF a t.rd.fig) a ↔ n ∈ a ∨ ∃ t ∈ l, (t.rd.fig : Int) = n := fun l => by
      induction l with
      | nil => intro a; simp
      | cons t l ih =>
        intro a
        rw [List.foldl_cons, ih]
        have e : n ∈ addF a t.rd.fig ↔ n ∈ a ∨ (t.rd.fig : Int) = n := by
          unfold addF; split
          · rename_i hm; exact ⟨.inl, fun h => h.elim id fun e => e ▸ hm⟩
          · rw [List.mem_append, List.mem_singleton, eq_comm]
        rw [e]; simp only [List.mem_cons, exists_eq_or_imp, or_assoc]
    rw [seenF, gen]; simp
  intro n hn
  rw [key] at hn ⊢
  obtain ⟨t, ht, e⟩ := hn
  exact ⟨t, h t ht, e⟩
theorem nodup_le {l m : List Int} (hl : l.Nodup) (h : ∀ n ∈ l, n ∈ m) : l.length ≤ m.length := by
  induction l generalizing m with
  | nil => simp
  | cons x l ih =>
    have hx := List.nodup_cons.1 hl
    have := ih (m := m.erase x) hx.2 fun n hn => (List.mem_erase_of_ne (fun e => hx.1 (by rw [e] at hn; exact hn))).2 (h n (by simp [hn]))
    rw [List.length_erase_of_mem (h x (by simp))] at this
    have := List.length_pos_of_mem (h x (by simp))
    rw [List.length_cons]; omega
theorem lenS_mono {l m : List Th} (h : ∀ t ∈ l, t ∈ m) : lenS l ≤ lenS m := by
  have := nodup_le (seenF_nodup l) (seenF_sub h)
  unfold lenS; omega
theorem lenS_pos {l : List Th} (h : 0 < l.length) : 1 ≤ lenS l := by
  cases l with
  | nil => simp at h
  | cons t l =>
    have h1 := lenS_mono (l := [t]) (m := t :: l) (by simp)
    have h2 : lenS [t] = 1 := by unfold lenS seenF addF; simp
    omega
end Ol
namespace Ol
open Ni (inn)
namespace Ca
def eR (c : Ca) (k : Int) : Int := (k + 1) * (c.s.far - c.p.near) + c.s.flame * c.p.near
end Ca
end Ol
namespace Ol
open Ni (inn)
theorem seenF_mem' {l : List Th} {n : Int} : n ∈ seenF l ↔ ∃ t ∈ l, (t.rd.fig : Int) = n := by
  have gen : ∀ (l : List Th) (a : List Int), n ∈ l.foldl (fun a t => addF a t.rd.fig) a ↔ n ∈ a ∨ ∃ t ∈ l, (t.rd.fig : Int) = n := fun l => by
    induction l with
    | nil => intro a; simp
    | cons t l ih =>
      intro a
      rw [List.foldl_cons, ih]
      have e : n ∈ addF a t.rd.fig ↔ n ∈ a ∨ (t.rd.fig : Int) = n := by
        unfold addF; split
        · rename_i hm; exact ⟨.inl, fun h => h.elim id fun e => e ▸ hm⟩
        · rw [List.mem_append, List.mem_singleton, eq_comm]
      rw [e]; simp only [List.mem_cons, exists_eq_or_imp, or_assoc]
  rw [seenF, gen]; simp
theorem wordOf_ne {S : List Int} {i : Nat} : wordOf S i ≠ 1 ↔ (i : Int) ∈ S := by
  unfold wordOf
  by_cases h : (i : Int) ∈ S
  · rw [if_pos h]; refine ⟨fun _ => h, fun _ => ?_⟩
    split <;> decide
  · rw [if_neg h]; exact ⟨fun e => absurd rfl e, fun e => absurd e h⟩
theorem words_len {S : List Int} {n : Nat} (hn : S.Nodup) (h : ∀ k ∈ S, 0 ≤ k ∧ k < n) : (((List.range n).map (wordOf S)).filter fun w => decide (w ≠ 1)).length = S.length := by
  have e : (((List.range n).map (wordOf S)).filter fun w => decide (w ≠ 1)).length = (((List.range n).filter fun (i : Nat) => decide ((i : Int) ∈ S)).map fun (i : Nat) => (i : Int)).length := by
    rw [List.filter_map, List.length_map, List.length_map]
    congr 2
    funext i
    simp only [Function.comp]
    rw [decide_eq_decide]
    exact wordOf_ne
  rw [e]
  apply Nat.le_antisymm
  · refine nodup_le ?_ fun k hk => ?_
    · refine List.pairwise_map.2 (List.Pairwise.imp (fun {a b} (h : a ≠ b) => ?_) (List.Pairwise.filter _ List.nodup_range))
      exact fun e => h (by omega)
    · obtain ⟨i, hi, rfl⟩ := List.mem_map.1 hk
      simpa using (List.mem_filter.1 hi).2
  · refine nodup_le hn fun k hk => ?_
    have := h k hk
    exact List.mem_map.2 ⟨k.toNat, List.mem_filter.2 ⟨List.mem_range.2 (by omega), by rw [decide_eq_true_eq, show ((k.toNat : Nat) : Int) = k by omega]; exact hk⟩, by omega⟩
theorem seen_range {x : Sn} {sight : List (List UInt8)} : ∀ k ∈ seenF (agrees x sight), 0 ≤ k ∧ k < (x.l.length : Int) := fun k hk => by
  obtain ⟨t, ht, e⟩ := seenF_mem'.1 hk
  obtain ⟨i, n, q, hi, _, _, rfl⟩ := rdgs_mem (List.mem_filter.1 ht).1
  have e2 : (thrown x i n q).rd.fig = i := rfl
  rw [e2] at e
  omega
theorem who_len (x : Sn) (sight : List (List UInt8)) : (((whoOf x sight).filter fun w => decide (w ≠ 1)).length : Int) = lenS (agrees x sight) := by
  unfold lenS whoOf
  rw [words_len (seenF_nodup _) seen_range]
theorem best_gen : ∀ (l : List (Int × Int)) (a : Int × Int), (∀ p ∈ l, a.1 < p.1) → l.Pairwise (fun p q => p.1 < q.1) →
    (l.foldl better a = a ∨ l.foldl better a ∈ l) ∧ ∀ p ∈ a :: l, (l.foldl better a).2 < p.2 ∨ ((l.foldl better a).2 = p.2 ∧ (l.foldl better a).1 ≤ p.1)
  | [], a, _, _ => by simp
  | q :: l, a, h, hp => by
    have hp' := List.pairwise_cons.1 hp
    rw [List.foldl_cons]
    by_cases e : q.2 < a.2
    · have eb : better a q = q := by unfold better; rw [if_pos e]
      rw [eb]
      obtain ⟨h1, h2⟩ := best_gen l q hp'.1 hp'.2
      refine ⟨.inr ?_, fun p hm => ?_⟩
      · rcases h1 with h1 | h1
        · rw [h1]; simp
        · simp [h1]
      · rcases List.mem_cons.1 hm with rfl | hm
        · rcases h2 q (by simp) with h | h
          · left; omega
          · left; omega
        · exact h2 p hm
    · have eb : better a q = a := by unfold better; rw [if_neg e]
      rw [eb]
      obtain ⟨h1, h2⟩ := best_gen l a (fun p hm => h p (by simp [hm])) hp'.2
      refine ⟨?_, fun p hm => ?_⟩
      · rcases h1 with h1 | h1
        · exact .inl h1
        · right; simp [h1]
      · rcases List.mem_cons.1 hm with rfl | hm
        · exact h2 p (by simp)
        · rcases List.mem_cons.1 hm with rfl | hm
          · have := h p (by simp)
            rcases h2 a (by simp) with h | h
            · left; omega
            · rcases h1 with h1 | h1
              · rw [h1] at h ⊢; by_cases h3 : a.2 < p.2
                · exact .inl h3
                · right; omega
              · have h4 := hp'.1 _ h1
                by_cases h3 : (l.foldl better a).2 < p.2
                · exact .inl h3
                · right; omega
          · exact h2 p (by simp [hm])
theorem best_spec {l : List (Int × Int)} (h : 0 < l.length) (hp : l.Pairwise (fun p q => p.1 < q.1)) : bestOf l ∈ l ∧ ∀ p ∈ l, (bestOf l).2 < p.2 ∨ ((bestOf l).2 = p.2 ∧ (bestOf l).1 ≤ p.1) := by
  cases l with
  | nil => simp at h
  | cons a l =>
    have hp' := List.pairwise_cons.1 hp
    obtain ⟨h1, h2⟩ := best_gen l a hp'.1 hp'.2
    refine ⟨?_, h2⟩
    show l.foldl better a ∈ a :: l
    rcases h1 with h1 | h1
    · rw [h1]; simp
    · simp [h1]
theorem looks_rising (w : Int) (L : List Th) (sight : List (List UInt8)) (k : Nat) : (looks w L sight k).Pairwise (fun p q => p.1 < q.1) := by
  unfold looks
  rw [List.pairwise_map]
  refine List.Pairwise.filter _ ?_
  refine List.Pairwise.imp ?_ List.pairwise_lt_range
  intro a b h; simpa using h
theorem looks_mem {w : Int} {L : List Th} {sight : List (List UInt8)} {k : Nat} {p : Int × Int} : p ∈ looks w L sight k ↔ ∃ n : Nat, n < k ∧ chAt w sight n = 63 ∧ p = ((n : Int), mostAt w L n) := by
  unfold looks
  constructor
  · intro h
    obtain ⟨n, hn, rfl⟩ := List.mem_map.1 h
    obtain ⟨h1, h2⟩ := List.mem_filter.1 hn
    exact ⟨n, List.mem_range.1 h1, by simpa using h2, rfl⟩
  · rintro ⟨n, h1, h2, rfl⟩
    exact List.mem_map.2 ⟨n, List.mem_filter.2 ⟨List.mem_range.2 h1, by simpa using h2⟩, rfl⟩
theorem rest_sub {w : Int} {L : List Th} {n : Int} {c : UInt8} : ∀ t ∈ restOf w L n c, t ∈ L := fun t ht => (List.mem_filter.1 ht).1
theorem lenS_nn (l : List Th) : 0 ≤ lenS l := by unfold lenS; omega
theorem mostAt_le (w : Int) (L : List Th) (n : Int) : mostAt w L n ≤ lenS L := by
  have h1 := lenS_mono (rest_sub (w := w) (L := L) (n := n) (c := 35))
  have h2 := lenS_mono (rest_sub (w := w) (L := L) (n := n) (c := 46))
  have h3 := lenS_nn L
  unfold mostAt; omega
theorem mostAt_pos (w : Int) {L : List Th} (n : Int) (h : 0 < L.length) : 1 ≤ mostAt w L n := by
  cases L with
  | nil => simp at h
  | cons t L =>
    have hc : opp (chAt w t.sh n) 35 = false ∨ opp (chAt w t.sh n) 46 = false := by
      unfold opp
      by_cases e : chAt w t.sh n = 35
      · left; rw [e]; rfl
      · by_cases e2 : chAt w t.sh n = 46
        · right; rw [e2]; rfl
        · left; simp [e2]
    unfold mostAt
    rcases hc with e | e
    · have : 1 ≤ lenS (restOf w (t :: L) n 35) := lenS_pos (by unfold restOf; rw [List.filter_cons_of_pos (by simp [e])]; simp)
      omega
    · have : 1 ≤ lenS (restOf w (t :: L) n 46) := lenS_pos (by unfold restOf; rw [List.filter_cons_of_pos (by simp [e])]; simp)
      omega
theorem mostAt_max (w : Int) (L : List Th) (n : Int) : mostAt w L n = max (lenS (restOf w L n 35)) (lenS (restOf w L n 46)) := by
  have h1 := lenS_nn (restOf w L n 35)
  unfold mostAt; omega
end Ol
namespace Ol
open Ni (inn)
theorem mem_rdgs {x : Sn} {t : Th} : t ∈ rdgs x ↔ t.rd.fig < x.l.length ∧ t ∈ rdN x t.rd.fig := by
  unfold rdgs
  rw [List.mem_flatMap]
  constructor
  · rintro ⟨i, hi, h⟩
    have := rdN_fig h
    subst this
    exact ⟨List.mem_range.1 hi, h⟩
  · rintro ⟨h1, h2⟩; exact ⟨_, List.mem_range.2 h1, h2⟩
theorem good_mists {x : Sn} {t u : Th} (ht : t ∈ rdgs x) (hu : u ∈ rdgs x) (h : goodP t u) : mists ((byF x).getD t.rd.fig []) ((byF x).getD u.rd.fig []) = true := by
  obtain ⟨a1, a2⟩ := mem_rdgs.1 ht
  obtain ⟨b1, b2⟩ := mem_rdgs.1 hu
  have g : ∀ {i : Nat}, i < x.l.length → (byF x).getD i [] = rdN x i := fun {i} hi => by
    unfold byF; rw [getD_get (by simpa using hi)]; simp
  rw [g a1, g b1]
  exact mists_iff.2 ⟨t, a2, u, b2, h.2⟩
theorem MInv.done {x : Sn} {M : Option (Nat × Nat)} (h : MInv (rdgs x) M (rdgs x).length 0) : misOf x = M := by
  have g : ∀ {i : Nat}, i < x.l.length → (byF x).getD i [] = rdN x i := fun {i} hi => by
    unfold byF; rw [getD_get (by simpa using hi)]; simp
  have hl : (byF x).length = x.l.length := by simp [byF]
  have real : ∀ {a b : Nat}, a < b → b < x.l.length → mists ((byF x).getD a []) ((byF x).getD b []) = true → leM M a b := fun {a b} hab hb hm => by
    rw [g (by omega), g hb] at hm
    obtain ⟨t, ht, u, hu, hag⟩ := mists_iff.1 hm
    have ft := rdN_fig ht
    have fu := rdN_fig hu
    have mt : t ∈ rdgs x := mem_rdgs.2 ⟨by omega, by rw [ft]; exact ht⟩
    have mu : u ∈ rdgs x := mem_rdgs.2 ⟨by omega, by rw [fu]; exact hu⟩
    obtain ⟨p, hp, rfl⟩ := List.getElem_of_mem mt
    obtain ⟨q, hq, rfl⟩ := List.getElem_of_mem mu
    have := h.least p q hp hq (.inl hp) ⟨by omega, hag⟩
    rw [ft, fu] at this; exact this
  cases hm : misOf x with
  | none =>
    cases M with
    | none => rfl
    | some m =>
      obtain ⟨t, ht, u, hu, hg, e1, e2⟩ := h.real m rfl
      have h1 := good_mists ht hu hg
      have h2 := pair_none_inv hm _ _ hg.1 (by rw [hl]; exact (mem_rdgs.1 hu).1)
      rw [h1] at h2; cases h2
  | some m' =>
    obtain ⟨a, b⟩ := m'
    obtain ⟨⟨hab, hbl⟩, hmin⟩ := pair_some_inv hm
    rw [hl] at hbl hmin
    obtain ⟨i, hi, e, _⟩ := findSome_inv (show (List.range (byF x).length).findSome? (pairI (byF x)) = some (a, b) from hm)
    have hmm : mists ((byF x).getD a []) ((byF x).getD b []) = true := by
      unfold pairI at e
      cases hf : (List.range (byF x).length).find? (fun k => decide (i < k) && mists ((byF x).getD i []) ((byF x).getD k [])) with
      | none => rw [hf] at e; cases e
      | some k =>
        rw [hf] at e
        simp only [Option.map_some, Option.some.injEq, Prod.mk.injEq] at e
        have h1 := List.find?_some hf
        simp only [Bool.and_eq_true] at h1
        rw [← e.1, ← e.2]; exact h1.2
    have hle := real hab hbl hmm
    cases M with
    | none => unfold leM at hle; simp only [mA] at hle; omega
    | some m =>
      obtain ⟨t, ht, u, hu, hg, e1, e2⟩ := h.real m rfl
      have h1 := good_mists ht hu hg
      have h2 := hmin _ _ hg.1 (mem_rdgs.1 hu).1 h1
      unfold leM at hle
      simp only [mA, mB] at hle
      obtain ⟨m1, m2⟩ := m
      simp only at *
      congr 1
      refine Prod.ext ?_ ?_ <;> simp only <;> omega
end Ol
namespace Go.Proofs.YtmbknoaneglilaaGreatDoor
open Go Go.Ab Ni Ol
theorem en31 : Ent Tryz.prog 31 := Ent.of Tryz.func31 (by kernel_rfl) rfl
theorem en89 : Ent Tryz.prog 89 := Ent.of Tryz.func89 (by kernel_rfl) rfl
theorem rin_pure (n lo hi : Int) : APure Tryz.prog 89 [I n, I lo, I hi] (B (inn n lo hi)) := by
 refine apure_of (rs := [.tmp 6]) Tryz.func89 rfl rfl (Nat.le_of_ble_eq_true rfl) (by simp [AV.pureL, AV.pureB, AV.pureE, pureE_map]) (by first | rfl | (simp [AV.pureL, AV.pureB, AV.pureE, pureE_map])) fun e0 he0 => ?_
 refine aw_seq (aw_region ?_)
 refine asr J rfl (sq_nil (aw_seq (aw_region (mvr J rfl (mvr J rfl (sq_ev rfl (ev_geq J J) ?_))))))
 refine mvr J rfl ?_
 refine sq_split 10 J (fun g1 => ?_) (fun g1 => ?_)
 ·
  have g1' := g1
  try simp only [qq] at g1'
  refine sq_yes rfl rfl (less_b g1) rfl (ev_mv (v := .raw _) J) ?_
  refine sq_yes rfl rfl (less_b g1) rfl (ev_mv (v := .raw _) J) ?_
  refine sq_yes rfl rfl (less_b g1) rfl (ev_leq J J) ?_
  refine sq_ev rfl (ev_pickT (v := .raw _) (less_b g1) J) ?_
  refine asr J rfl (sq_nil (aw_ret ?_))
  exact retQ_pure (v := .raw _) rfl rfl (Less.eq (by simp [inn, *]))
 have g1' := g1
 try simp only [qq] at g1'
 refine sq_no rfl rfl (less_b g1) rfl rfl ?_
 refine sq_no rfl rfl (less_b g1) rfl rfl ?_
 refine sq_no rfl rfl (less_b g1) rfl rfl ?_
 refine sq_ev rfl (ev_pickF (v := .raw _) (less_b g1) J) ?_
 refine asr J rfl (sq_nil (aw_ret ?_))
 exact retQ_pure (v := .raw _) rfl rfl (Less.eq (by simp [inn, *]))
theorem rstage_pure (s : Sg) : APure Tryz.prog 24 [stA s] (B (stOK s)) := by
 refine apure_of (rs := [.tmp 2]) Tryz.func24 rfl rfl (Nat.le_of_ble_eq_true rfl) (by simp [AV.pureL, AV.pureB, AV.pureE, pureE_map]) (by first | rfl | (simp [AV.pureL, AV.pureB, AV.pureE, pureE_map])) fun e0 he0 => ?_
 refine aw_seq (aw_region (sq_box rfl J rfl (asr J rfl (sq_nil (aw_seq (aw_region (sq_ev rfl (ev_fieldAddr fo23_0 J) ?_)))))))
 refine sq_ev rfl (ev_load J rfl ty3 rfl) ?_
 refine sq_ev rfl (ev_call en89 J (rin_pure _ _ _) ⟨J, J, J, trivial⟩) ?_
 refine mvr J rfl ?_
 refine sq_split 6 J (fun g1 => ?_) (fun g1 => ?_)
 ·
  have g1' := g1
  try simp only [qq] at g1'
  refine sq_yes rfl rfl (less_b g1) rfl (ev_fieldAddr fo23_1 J) ?_
  refine sq_yes rfl rfl (less_b g1) rfl (ev_load J rfl ty3 rfl) ?_
  refine sq_yes rfl rfl (less_b g1) rfl (ev_call en89 J (rin_pure _ _ _) ⟨J, J, J, trivial⟩) ?_
  refine sq_ev rfl (ev_pickT (v := .raw _) (less_b g1) J) ?_
  refine mvr J rfl ?_
  refine sq_split 11 J (fun g2 => ?_) (fun g2 => ?_)
  ·
   have g2' := g2
   try simp only [qq] at g2'
   refine sq_yes rfl rfl (less_b g2) rfl (ev_fieldAddr fo23_2 J) ?_
   refine sq_yes rfl rfl (less_b g2) rfl (ev_load J rfl ty3 rfl) ?_
   refine sq_yes rfl rfl (less_b g2) rfl (ev_call en89 J (rin_pure _ _ _) ⟨J, J, J, trivial⟩) ?_
   refine sq_ev rfl (ev_pickT (v := .raw _) (less_b g2) J) ?_
   refine mvr J rfl ?_
   refine sq_split 16 J (fun g3 => ?_) (fun g3 => ?_)
   ·
    have g3' := g3
    try simp only [qq] at g3'
    refine sq_yes rfl rfl (less_b g3) rfl (ev_fieldAddr fo23_3 J) ?_
    refine sq_yes rfl rfl (less_b g3) rfl (ev_load J rfl ty3 rfl) ?_
    refine sq_yes rfl rfl (less_b g3) rfl (ev_call en89 J (rin_pure _ _ _) ⟨J, J, J, trivial⟩) ?_
    refine sq_ev rfl (ev_pickT (v := .raw _) (less_b g3) J) ?_
    refine mvr J rfl ?_
    refine sq_split 21 J (fun g4 => ?_) (fun g4 => ?_)
    ·
     have g4' := g4
     try simp only [qq] at g4'
     refine sq_yes rfl rfl (less_b g4) rfl (ev_fieldAddr fo23_4 J) ?_
     refine sq_yes rfl rfl (less_b g4) rfl (ev_load J rfl ty3 rfl) ?_
     refine sq_yes rfl rfl (less_b g4) rfl (ev_fieldAddr fo23_0 J) ?_
     refine sq_yes rfl rfl (less_b g4) rfl (ev_load J rfl ty3 rfl) ?_
     refine sq_yes rfl rfl (less_b g4) rfl (ev_call en89 J (rin_pure _ _ _) ⟨J, J, J, trivial⟩) ?_
     refine sq_ev rfl (ev_pickT (v := .raw _) (less_b g4) J) ?_
     refine mvr J rfl ?_
     refine sq_split 28 J (fun g5 => ?_) (fun g5 => ?_)
     ·
      have g5' := g5
      try simp only [qq] at g5'
      refine sq_yes rfl rfl (less_b g5) rfl (ev_fieldAddr fo23_5 J) ?_
      refine sq_yes rfl rfl (less_b g5) rfl (ev_load J rfl ty3 rfl) ?_
      refine sq_yes rfl rfl (less_b g5) rfl (ev_fieldAddr fo23_1 J) ?_
      refine sq_yes rfl rfl (less_b g5) rfl (ev_load J rfl ty3 rfl) ?_
      refine sq_yes rfl rfl (less_b g5) rfl (ev_call en89 J (rin_pure _ _ _) ⟨J, J, J, trivial⟩) ?_
      refine sq_ev rfl (ev_pickT (v := .raw _) (less_b g5) J) ?_
      refine asr J rfl (sq_nil (aw_ret ?_))
      exact retQ_pure (v := .raw _) rfl rfl (Less.eq (by simp [stOK, *]))
     have g5' := g5
     try simp only [qq] at g5'
     refine sq_no rfl rfl (less_b g5) rfl rfl ?_
     refine sq_no rfl rfl (less_b g5) rfl rfl ?_
     refine sq_no rfl rfl (less_b g5) rfl rfl ?_
     refine sq_no rfl rfl (less_b g5) rfl rfl ?_
     refine sq_no rfl rfl (less_b g5) rfl rfl ?_
     refine sq_ev rfl (ev_pickF (v := .raw _) (less_b g5) J) ?_
     refine asr J rfl (sq_nil (aw_ret ?_))
     exact retQ_pure (v := .raw _) rfl rfl (Less.eq (by simp [stOK, *]))
    have g4' := g4
    try simp only [qq] at g4'
    refine sq_no rfl rfl (less_b g4) rfl rfl ?_
    refine sq_no rfl rfl (less_b g4) rfl rfl ?_
    refine sq_no rfl rfl (less_b g4) rfl rfl ?_
    refine sq_no rfl rfl (less_b g4) rfl rfl ?_
    refine sq_no rfl rfl (less_b g4) rfl rfl ?_
    refine sq_ev rfl (ev_pickF (v := .raw _) (less_b g4) J) ?_
    refine mvr J rfl (sq_no rfl rfl J rfl rfl (sq_no rfl rfl J rfl rfl ?_))
    refine sq_no rfl rfl J rfl rfl (sq_no rfl rfl J rfl rfl (sq_no rfl rfl J rfl rfl (pf rfl J J (asr J rfl (sq_nil (aw_ret ?_))))))
    exact retQ_pure (v := .raw _) rfl rfl (Less.eq (by simp [stOK, *]))
   have g3' := g3
   try simp only [qq] at g3'
   refine sq_no rfl rfl (less_b g3) rfl rfl ?_
   refine sq_no rfl rfl (less_b g3) rfl rfl ?_
   refine sq_no rfl rfl (less_b g3) rfl rfl ?_
   refine sq_ev rfl (ev_pickF (v := .raw _) (less_b g3) J) ?_
   refine mvr J rfl (sq_no rfl rfl J rfl rfl (sq_no rfl rfl J rfl rfl ?_))
   refine sq_no rfl rfl J rfl rfl (sq_no rfl rfl J rfl rfl (sq_no rfl rfl J rfl rfl (pf rfl J J (mvr J rfl (sq_no rfl rfl J rfl rfl (sq_no rfl rfl J rfl rfl ?_))))))
   refine sq_no rfl rfl J rfl rfl (sq_no rfl rfl J rfl rfl (sq_no rfl rfl J rfl rfl (pf rfl J J (asr J rfl (sq_nil (aw_ret ?_))))))
   exact retQ_pure (v := .raw _) rfl rfl (Less.eq (by simp [stOK, *]))
  have g2' := g2
  try simp only [qq] at g2'
  refine sq_no rfl rfl (less_b g2) rfl rfl ?_
  refine sq_no rfl rfl (less_b g2) rfl rfl ?_
  refine sq_no rfl rfl (less_b g2) rfl rfl ?_
  refine sq_ev rfl (ev_pickF (v := .raw _) (less_b g2) J) ?_
  refine mvr J rfl ?_
  refine sq_no rfl rfl J rfl rfl (sq_no rfl rfl J rfl rfl (sq_no rfl rfl J rfl rfl (pf rfl J J (mvr J rfl (sq_no rfl rfl J rfl rfl (sq_no rfl rfl J rfl rfl ?_))))))
  refine sq_no rfl rfl J rfl rfl (sq_no rfl rfl J rfl rfl (sq_no rfl rfl J rfl rfl (pf rfl J J (mvr J rfl (sq_no rfl rfl J rfl rfl (sq_no rfl rfl J rfl rfl ?_))))))
  refine sq_no rfl rfl J rfl rfl (sq_no rfl rfl J rfl rfl (sq_no rfl rfl J rfl rfl (pf rfl J J (asr J rfl (sq_nil (aw_ret ?_))))))
  exact retQ_pure (v := .raw _) rfl rfl (Less.eq (by simp [stOK, *]))
 have g1' := g1
 try simp only [qq] at g1'
 refine sq_no rfl rfl (less_b g1) rfl rfl ?_
 refine sq_no rfl rfl (less_b g1) rfl rfl ?_
 refine sq_no rfl rfl (less_b g1) rfl rfl ?_
 refine sq_ev rfl (ev_pickF (v := .raw _) (less_b g1) J) ?_
 refine mvr J rfl (sq_no rfl rfl J rfl rfl (sq_no rfl rfl J rfl rfl (sq_no rfl rfl J rfl rfl (pf rfl J J (mvr J rfl ?_)))))
 refine sq_no rfl rfl J rfl rfl (sq_no rfl rfl J rfl rfl (sq_no rfl rfl J rfl rfl (pf rfl J J (mvr J rfl (sq_no rfl rfl J rfl rfl (sq_no rfl rfl J rfl rfl ?_))))))
 refine sq_no rfl rfl J rfl rfl (sq_no rfl rfl J rfl rfl (sq_no rfl rfl J rfl rfl (pf rfl J J (mvr J rfl (sq_no rfl rfl J rfl rfl (sq_no rfl rfl J rfl rfl ?_))))))
 refine sq_no rfl rfl J rfl rfl (sq_no rfl rfl J rfl rfl (sq_no rfl rfl J rfl rfl (pf rfl J J (asr J rfl (sq_nil (aw_ret ?_))))))
 exact retQ_pure (v := .raw _) rfl rfl (Less.eq (by simp [stOK, *]))
theorem rat_pure (x y : Int) : APure Tryz.prog 31 [I x, I y] (B (awayOK x && awayOK y)) := by
 refine apure_of (rs := [.tmp 4]) Tryz.func31 rfl rfl (Nat.le_of_ble_eq_true rfl) (by simp [AV.pureL, AV.pureB, AV.pureE, pureE_map]) (by first | rfl | (simp [AV.pureL, AV.pureB, AV.pureE, pureE_map])) fun e0 he0 => ?_
 refine aw_seq (aw_region (asr J rfl (sq_nil (aw_seq (aw_region (mvr J rfl (sq_ev rfl (ev_call en89 J (rin_pure _ _ _) ⟨J, J, J, trivial⟩) ?_)))))))
 refine mvr J rfl ?_
 refine sq_split 7 J (fun g1 => ?_) (fun g1 => ?_)
 ·
  have g1' := g1
  try simp only [qq] at g1'
  refine sq_yes rfl rfl (less_b g1) rfl (ev_mv (v := .raw _) J) ?_
  refine sq_yes rfl rfl (less_b g1) rfl (ev_call en89 J (rin_pure _ _ _) ⟨J, J, J, trivial⟩) ?_
  refine sq_ev rfl (ev_pickT (v := .raw _) (less_b g1) J) ?_
  refine asr J rfl (sq_nil (aw_ret ?_))
  exact retQ_pure (v := .raw _) rfl rfl (Less.eq (by simp [awayOK, *]))
 have g1' := g1
 try simp only [qq] at g1'
 refine sq_no rfl rfl (less_b g1) rfl rfl ?_
 refine sq_no rfl rfl (less_b g1) rfl rfl ?_
 refine sq_ev rfl (ev_pickF (v := .raw _) (less_b g1) J) ?_
 refine asr J rfl (sq_nil (aw_ret ?_))
 exact retQ_pure (v := .raw _) rfl rfl (Less.eq (by simp [awayOK, *]))
end Go.Proofs.YtmbknoaneglilaaGreatDoor
namespace Go.Proofs.YtmbknoaneglilaaGreatDoor
open Go Go.Ab Ni Ol
theorem ch_ok {c : UInt8} (h : (c.toNat : Int) = 35 ∨ (c.toNat : Int) = 46) : chOK c = true := by
  unfold chOK; simp only [decide_eq_true_eq]
  exact h.imp (fun h => UInt8.toNat_inj.1 (by show c.toNat = 35; omega)) (fun h => UInt8.toNat_inj.1 (by show c.toNat = 46; omega))
theorem ch_no {c : UInt8} (h : (c.toNat : Int) ≠ 35) (k : (c.toNat : Int) ≠ 46) : chOK c = false := by
  rw [Bool.eq_false_iff]; intro ho; unfold chOK at ho; simp only [decide_eq_true_eq] at ho
  rcases ho with e | e <;> (subst e; first | exact h rfl | exact k rfl)
theorem rfigure_pure (f : Fg) : APure Tryz.prog 25 [fgA f] (B (fgOK f)) := by
  refine apure_of (rs := [.tmp 2]) Tryz.func25 rfl rfl (Nat.le_of_ble_eq_true rfl) (by simp [AV.pureL, AV.pureB, AV.pureE, pureE_map]) (by first | rfl | (simp [AV.pureL, AV.pureB, AV.pureE, pureE_map])) fun e0 he0 => ?_
  refine aw_seq (aw_region ?_)
  refine sq_box rfl J rfl (asr J rfl (sq_nil (aw_seq (aw_seq (aw_region (sq_ev rfl (ev_fieldAddr fo26_0 J) ?_))))))
  refine sq_ev rfl (ev_load J rfl ty24 rfl) ?_
  refine sq_ev rfl (ev_len_map sl24 J) ?_
  refine sq_ev rfl (ev_call en89 J (rin_pure _ _ _) ⟨J, J, J, trivial⟩) ?_
  refine sq_ev rfl (ev_not J) ?_
  refine mvr J rfl ?_
  refine sq_split 11 J (fun g1_5 => ?_) (fun g1_5 => ?_)
  · skip
    have g1_5' := g1_5
    try simp only [qq] at g1_5'
    refine sq_no rfl rfl (less_b g1_5) rfl rfl ?_
    refine sq_no rfl rfl (less_b g1_5) rfl rfl ?_
    refine sq_no rfl rfl (less_b g1_5) rfl rfl ?_
    refine sq_no rfl rfl (less_b g1_5) rfl rfl ?_
    refine sq_no rfl rfl (less_b g1_5) rfl rfl ?_
    refine sq_no rfl rfl (less_b g1_5) rfl rfl ?_
    refine sq_no rfl rfl (less_b g1_5) rfl rfl ?_
    refine sq_ev rfl (ev_pickT (v := .raw _) (less_b g1_5) J) ?_
    refine sq_nil ?_
    refine aw_true J ?_
    refine aw_seq (aw_region (asr J rfl (sq_nil (aw_ret ?_))))
    exact retQ_pure (v := .raw _) rfl rfl (Less.eq (by unfold fgOK; simp_all))
  · skip
    have g1_5' := g1_5
    try simp only [qq] at g1_5'
    have h1 : inn f.length 1 6 = true := by simpa using g1_5
    have hlen : 1 ≤ f.length ∧ f.length ≤ 6 := by simp only [inn, Bool.and_eq_true, decide_eq_true_eq] at h1; omega
    have hw0 := w0_eq (f := f) (by omega)
    refine sq_yes rfl rfl (less_b g1_5) rfl (ev_fieldAddr fo26_0 J) ?_
    refine sq_yes rfl rfl (less_b g1_5) rfl (ev_load J rfl ty24 rfl) ?_
    refine sq_yes rfl rfl (less_b g1_5) rfl (ev_index_map (k := 0) sl24 J J rfl (by omega)) ?_
    refine sq_yes rfl rfl (less_b g1_5) rfl (ev_load_i J ty9 rfl) ?_
    refine sq_yes rfl rfl (less_b g1_5) rfl (ev_lenS Tryz.underlying9 J) ?_
    refine sq_yes rfl rfl (less_b g1_5) rfl (ev_call en89 J (rin_pure _ _ _) ⟨J, J, J, trivial⟩) ?_
    refine sq_yes rfl rfl (less_b g1_5) rfl (ev_not J) ?_
    refine sq_ev rfl (ev_pickF (v := .raw _) (less_b g1_5) J) ?_
    refine sq_nil ?_
    refine aw_cond J (fun c_19 => ?_) (fun c_19 => ?_)
    · skip
      have c_19' := c_19
      try simp only [qq] at c_19'
      refine aw_seq (aw_region (asr J rfl (sq_nil (aw_ret ?_))))
      exact retQ_pure (v := .raw _) rfl rfl (Less.eq (by unfold fgOK; rw [hw0]; simp_all))
    · skip
      have c_19' := c_19
      try simp only [qq] at c_19'
      have h2 : inn (w0 f) 1 6 = true := by rw [hw0]; simpa using c_19
      refine aw_skip (aw_seq (aw_region (asr J rfl ?_)))
      refine sq_nil (aw_seq (aw_seq (aw_region (asr J rfl (sq_nil (aw_block ?_))))))
      refine aw_loopk (ι := { k : Nat // k ≤ f.length ∧ ∀ i, (h : i < f.length) → i < k → fgRow (w0 f) f[i] = true }) [1] (fun i => [(3, B ((f.take i.1).any hasH)), (4, I i.1)]) (fun H i => H) (fun i => f.length - i.1) (⟨0, Nat.zero_le _, by omega⟩) ⟨J, J, J, trivial⟩ rfl ?_
      rintro ⟨k, hk, hok⟩
      dsimp only [keepS, St.put, sget, slotsOf, nn1, nn2, nn3, nn4, nn5, nn6, Nat.reduceBEq, Nat.reduceAdd, nn7, nn8]
      refine aw_seq (aw_seq (aw_region (mvr J rfl (sq_ev rfl (ev_fieldAddr fo26_0 J) ?_))))
      refine sq_ev rfl (ev_load J rfl ty24 rfl) ?_
      refine sq_ev rfl (ev_len_map sl24 J) ?_
      refine sq_ev rfl (ev_lss J J) ?_
      refine sq_nil ?_
      refine aw_cond J (fun c_24 => ?_) (fun c_24 => ?_)
      · skip
        have c_24' := c_24
        try simp only [qq] at c_24'
        refine aw_skip (aw_seq (aw_block (aw_seq (aw_seq ?_))))
        refine aw_draw 12 mo (by kernel_rfl) ?_
        refine dr_ev rfl (ev_fieldAddr fo26_0 J) ?_
        refine dr_ev rfl (ev_load J rfl ty24 rfl) ?_
        refine dr_ev rfl (ev_mv (v := .raw _) J) ?_
        refine dr_ev rfl (ev_index_map sl24 J J rfl (by omega)) ?_
        refine dr_ev rfl (ev_load_i J ty9 rfl) ?_
        refine dr_ev rfl (ev_lenS Tryz.underlying9 J) ?_
        refine dr_ev rfl (ev_fieldAddr fo26_0 J) ?_
        refine dr_ev rfl (ev_load J rfl ty24 rfl) ?_
        refine dr_ev rfl (ev_index_map (k := 0) sl24 J J rfl (by omega)) ?_
        refine dr_ev rfl (ev_load_i J ty9 rfl) ?_
        refine dr_ev rfl (ev_lenS Tryz.underlying9 J) ?_
        refine dr_ev rfl (ev_neq J J) ?_
        refine dr_end (sq_nil ?_)
        refine aw_cond J (fun c_38 => ?_) (fun c_38 => ?_)
        · skip
          have c_38' := c_38
          try simp only [qq] at c_38'
          refine aw_seq (aw_region (asr J rfl (sq_nil (aw_ret ?_))))
          exact retQ_pure (v := .raw _) rfl rfl (Less.eq (by rw [fg_row_bad (k := k) (by omega) (fgRow_len (by rw [hw0]; omega))]))
        · skip
          have c_38' := c_38
          try simp only [qq] at c_38'
          have hlk : f[k].length ≤ 6 := by simp only [inn, Bool.and_eq_true, decide_eq_true_eq] at h2; omega
          refine aw_skip (aw_seq (aw_region (asr J rfl (sq_nil (aw_block ?_)))))
          refine aw_loopk (ι := { j : Nat // j ≤ f[k].length ∧ ∀ i, (h : i < f[k].length) → i < j → chOK f[k][i] = true }) [1, 4] (fun q => [(3, B ((f.take k).any hasH || (f[k].take q.1).any fun c => decide (c = 35))), (5, I q.1)]) (fun H q => H) (fun q => f[k].length - q.1) (⟨0, Nat.zero_le _, by omega⟩) ⟨(Less.eq (by show B ((f.take k).any hasH) = _; simp)), J, J, J, trivial⟩ rfl ?_
          rintro ⟨j, hj, hoj⟩
          dsimp only [keepS, St.put, sget, slotsOf, nn1, nn2, nn3, nn4, nn5, nn6, Nat.reduceBEq, Nat.reduceAdd, nn7, nn8]
          refine aw_seq (aw_seq (aw_region (mvr J rfl (sq_ev rfl (ev_fieldAddr fo26_0 J) ?_))))
          refine sq_ev rfl (ev_load J rfl ty24 rfl) ?_
          refine mvr J rfl (sq_ev rfl (ev_index_map sl24 J J rfl (by omega)) ?_)
          refine sq_ev rfl (ev_load_i J ty9 rfl) ?_
          refine sq_ev rfl (ev_lenS Tryz.underlying9 J) ?_
          refine sq_ev rfl (ev_lss J J) ?_
          refine sq_nil ?_
          refine aw_cond J (fun c_46 => ?_) (fun c_46 => ?_)
          · skip
            have c_46' := c_46
            try simp only [qq] at c_46'
            have hk' : j < f[k].length := by omega
            have eC := any_take (q := fun c => decide (c = 35)) (l := f[k]) (k := j) hk'
            refine aw_skip (aw_seq (aw_block (aw_seq (aw_seq (aw_region (sq_ev rfl (ev_fieldAddr fo26_0 J) ?_))))))
            refine sq_ev rfl (ev_load J rfl ty24 rfl) ?_
            refine mvr J rfl (sq_ev rfl (ev_index_map sl24 J J rfl (by omega)) ?_)
            refine sq_ev rfl (ev_load_i J ty9 rfl) ?_
            refine mvr J rfl (sq_ev rfl (ev_idxS Tryz.underlying9 J J rfl (by omega)) ?_)
            refine sq_ev rfl (ev_neq J J) ?_
            refine mvr J rfl ?_
            refine sq_split 57 J (fun g12_8 => ?_) (fun g12_8 => ?_)
            · skip
              have g12_8' := g12_8
              try simp only [qq] at g12_8'
              refine sq_yes rfl rfl (less_b g12_8) rfl (ev_fieldAddr fo26_0 J) ?_
              refine sq_yes rfl rfl (less_b g12_8) rfl (ev_load J rfl ty24 rfl) ?_
              refine sq_yes rfl rfl (less_b g12_8) rfl (ev_mv (v := .raw _) J) ?_
              refine sq_yes rfl rfl (less_b g12_8) rfl (ev_index_map sl24 J J rfl (by omega)) ?_
              refine sq_yes rfl rfl (less_b g12_8) rfl (ev_load_i J ty9 rfl) ?_
              refine sq_yes rfl rfl (less_b g12_8) rfl (ev_mv (v := .raw _) J) ?_
              refine sq_yes rfl rfl (less_b g12_8) rfl (ev_idxS Tryz.underlying9 J J rfl (by omega)) ?_
              refine sq_yes rfl rfl (less_b g12_8) rfl (ev_neq J J) ?_
              refine sq_ev rfl (ev_pickT (v := .raw _) (less_b g12_8) J) ?_
              refine sq_nil ?_
              refine aw_cond J (fun c_66 => ?_) (fun c_66 => ?_)
              · skip
                have c_66' := c_66
                try simp only [qq] at c_66'
                refine aw_seq (aw_region (asr J rfl (sq_nil (aw_ret ?_))))
                exact retQ_pure (v := .raw _) rfl rfl (Less.eq (by rw [fg_row_bad (k := k) (by omega) (fgRow_ch (j := j) hk' (ch_no g12_8' c_66'))]))
              · skip
                have c_66' := c_66
                try simp only [qq] at c_66'
                have hch : chOK f[k][j] = true := ch_ok (.inr (by simpa using c_66))
                refine aw_skip (aw_region (mvr J rfl (mvr J rfl ?_)))
                refine sq_split 68 J (fun g14_1 => ?_) (fun g14_1 => ?_)
                · skip
                  have g14_1' := g14_1
                  try simp only [qq] at g14_1'
                  have eF : B true = B ((f.take k).any hasH || (f[k].take (j + 1)).any fun c => decide (c = 35)) := by rw [eC, ← Bool.or_assoc, g14_1]; rfl
                  refine sq_no rfl rfl (less_b g14_1) rfl rfl ?_
                  refine sq_no rfl rfl (less_b g14_1) rfl rfl ?_
                  refine sq_no rfl rfl (less_b g14_1) rfl rfl ?_
                  refine sq_no rfl rfl (less_b g14_1) rfl rfl ?_
                  refine sq_no rfl rfl (less_b g14_1) rfl rfl ?_
                  refine sq_no rfl rfl (less_b g14_1) rfl rfl ?_
                  refine sq_no rfl rfl (less_b g14_1) rfl rfl ?_
                  refine sq_no rfl rfl (less_b g14_1) rfl rfl ?_
                  refine sq_ev rfl (ev_pickT (v := .raw _) (less_b g14_1) J) ?_
                  refine asr J rfl (sq_nil (aw_region (mvr J rfl (sq_ev rfl (ev_add J J (wr (by omega) (by omega))) ?_))))
                  refine asr J rfl (sq_nil ?_)
                  exact ⟨⟨j + 1, by omega, fun i h hi => (by by_cases e : i = j; (subst e; exact hch); exact hoj i h (by omega))⟩, by simp only; omega, Sub.slots ⟨(Less.eq eF), J, J, J, trivial⟩⟩
                · skip
                  have g14_1' := g14_1
                  try simp only [qq] at g14_1'
                  have eF : B (decide (((f[k][j]).toNat : Int) = 35)) = B ((f.take k).any hasH || (f[k].take (j + 1)).any fun c => decide (c = 35)) := by rw [eC, ← Bool.or_assoc, g14_1, dec35]; rfl
                  refine sq_yes rfl rfl (less_b g14_1) rfl (ev_fieldAddr fo26_0 J) ?_
                  refine sq_yes rfl rfl (less_b g14_1) rfl (ev_load J rfl ty24 rfl) ?_
                  refine sq_yes rfl rfl (less_b g14_1) rfl (ev_mv (v := .raw _) J) ?_
                  refine sq_yes rfl rfl (less_b g14_1) rfl (ev_index_map sl24 J J rfl (by omega)) ?_
                  refine sq_yes rfl rfl (less_b g14_1) rfl (ev_load_i J ty9 rfl) ?_
                  refine sq_yes rfl rfl (less_b g14_1) rfl (ev_mv (v := .raw _) J) ?_
                  refine sq_yes rfl rfl (less_b g14_1) rfl (ev_idxS Tryz.underlying9 J J rfl (by omega)) ?_
                  refine sq_yes rfl rfl (less_b g14_1) rfl (ev_eql J J) ?_
                  refine sq_ev rfl (ev_pickF (v := .raw _) (less_b g14_1) J) ?_
                  refine asr J rfl (sq_nil (aw_region (mvr J rfl (sq_ev rfl (ev_add J J (wr (by omega) (by omega))) ?_))))
                  refine asr J rfl (sq_nil ?_)
                  exact ⟨⟨j + 1, by omega, fun i h hi => (by by_cases e : i = j; (subst e; exact hch); exact hoj i h (by omega))⟩, by simp only; omega, Sub.slots ⟨(Less.eq eF), J, J, J, trivial⟩⟩
            · skip
              have g12_8' := g12_8
              try simp only [qq] at g12_8'
              have hch : chOK f[k][j] = true := ch_ok (.inl (by simpa using g12_8))
              refine sq_no rfl rfl (less_b g12_8) rfl rfl ?_
              refine sq_no rfl rfl (less_b g12_8) rfl rfl ?_
              refine sq_no rfl rfl (less_b g12_8) rfl rfl ?_
              refine sq_no rfl rfl (less_b g12_8) rfl rfl ?_
              refine sq_no rfl rfl (less_b g12_8) rfl rfl ?_
              refine sq_no rfl rfl (less_b g12_8) rfl rfl ?_
              refine sq_no rfl rfl (less_b g12_8) rfl rfl ?_
              refine sq_no rfl rfl (less_b g12_8) rfl rfl ?_
              refine sq_ev rfl (ev_pickF (v := .raw _) (less_b g12_8) J) ?_
              refine sq_nil ?_
              refine aw_false J ?_
              refine aw_skip (aw_region (mvr J rfl (mvr J rfl ?_)))
              refine sq_split 68 J (fun g14_1 => ?_) (fun g14_1 => ?_)
              · skip
                have g14_1' := g14_1
                try simp only [qq] at g14_1'
                have eF : B true = B ((f.take k).any hasH || (f[k].take (j + 1)).any fun c => decide (c = 35)) := by rw [eC, ← Bool.or_assoc, g14_1]; rfl
                refine sq_no rfl rfl (less_b g14_1) rfl rfl ?_
                refine sq_no rfl rfl (less_b g14_1) rfl rfl ?_
                refine sq_no rfl rfl (less_b g14_1) rfl rfl ?_
                refine sq_no rfl rfl (less_b g14_1) rfl rfl ?_
                refine sq_no rfl rfl (less_b g14_1) rfl rfl ?_
                refine sq_no rfl rfl (less_b g14_1) rfl rfl ?_
                refine sq_no rfl rfl (less_b g14_1) rfl rfl ?_
                refine sq_no rfl rfl (less_b g14_1) rfl rfl ?_
                refine sq_ev rfl (ev_pickT (v := .raw _) (less_b g14_1) J) ?_
                refine asr J rfl (sq_nil (aw_region (mvr J rfl (sq_ev rfl (ev_add J J (wr (by omega) (by omega))) ?_))))
                refine asr J rfl (sq_nil ?_)
                exact ⟨⟨j + 1, by omega, fun i h hi => (by by_cases e : i = j; (subst e; exact hch); exact hoj i h (by omega))⟩, by simp only; omega, Sub.slots ⟨(Less.eq eF), J, J, J, trivial⟩⟩
              · skip
                have g14_1' := g14_1
                try simp only [qq] at g14_1'
                have eF : B (decide (((f[k][j]).toNat : Int) = 35)) = B ((f.take k).any hasH || (f[k].take (j + 1)).any fun c => decide (c = 35)) := by rw [eC, ← Bool.or_assoc, g14_1, dec35]; rfl
                refine sq_yes rfl rfl (less_b g14_1) rfl (ev_fieldAddr fo26_0 J) ?_
                refine sq_yes rfl rfl (less_b g14_1) rfl (ev_load J rfl ty24 rfl) ?_
                refine sq_yes rfl rfl (less_b g14_1) rfl (ev_mv (v := .raw _) J) ?_
                refine sq_yes rfl rfl (less_b g14_1) rfl (ev_index_map sl24 J J rfl (by omega)) ?_
                refine sq_yes rfl rfl (less_b g14_1) rfl (ev_load_i J ty9 rfl) ?_
                refine sq_yes rfl rfl (less_b g14_1) rfl (ev_mv (v := .raw _) J) ?_
                refine sq_yes rfl rfl (less_b g14_1) rfl (ev_idxS Tryz.underlying9 J J rfl (by omega)) ?_
                refine sq_yes rfl rfl (less_b g14_1) rfl (ev_eql J J) ?_
                refine sq_ev rfl (ev_pickF (v := .raw _) (less_b g14_1) J) ?_
                refine asr J rfl (sq_nil (aw_region (mvr J rfl (sq_ev rfl (ev_add J J (wr (by omega) (by omega))) ?_))))
                refine asr J rfl (sq_nil ?_)
                exact ⟨⟨j + 1, by omega, fun i h hi => (by by_cases e : i = j; (subst e; exact hch); exact hoj i h (by omega))⟩, by simp only; omega, Sub.slots ⟨(Less.eq eF), J, J, J, trivial⟩⟩
          · skip
            have c_46' := c_46
            try simp only [qq] at c_46'
            refine aw_exit (aw_region (mvr J rfl (sq_ev rfl (ev_add J J (wr (by omega) (by omega))) ?_)))
            refine asr J rfl (sq_nil ?_)
            have hgood : fgRow (w0 f) f[k] = true := fgRow_ok (by omega) (fun i h => hoj i h (by omega))
            have eA := any_take (q := hasH) (l := f) (k := k) (by omega)
            have eB : hasH f[k] = (f[k].take j).any (fun c => decide (c = 35)) := by unfold hasH; rw [List.take_of_length_le (by omega)]
            exact ⟨⟨k + 1, by omega, fun i h hi => (by by_cases e : i = k; (subst e; exact hgood); exact hok i h (by omega))⟩, by simp only; omega, Sub.slots ⟨(Less.eq (show B ((f.take k).any hasH || (f[k].take j).any fun c => decide (c = 35)) = _ by rw [eA, eB])), J, J, trivial⟩⟩
      · skip
        have c_24' := c_24
        try simp only [qq] at c_24'
        refine aw_exit (aw_seq (aw_region (mvr J rfl (asr J rfl (sq_nil (aw_ret ?_))))))
        exact retQ_pure (v := .raw _) rfl rfl (Less.eq (by rw [fg_end h1 h2 (fun i h => hok i h (by omega)), show k = f.length by omega, List.take_length]))
end Go.Proofs.YtmbknoaneglilaaGreatDoor
namespace Go.Proofs.YtmbknoaneglilaaGreatDoor
open Go Go.Ab Ni Ol
theorem en111 : Ent Tryz.prog 111 := Ent.of Tryz.func111 (by kernel_rfl) rfl
theorem en112 : Ent Tryz.prog 112 := Ent.of Tryz.func112 (by kernel_rfl) rfl
theorem en154 : Ent Tryz.prog 154 := Ent.of Tryz.func154 (by kernel_rfl) rfl
theorem en23 : Ent Tryz.prog 23 := Ent.of Tryz.func23 (by kernel_rfl) rfl
theorem en24 : Ent Tryz.prog 24 := Ent.of Tryz.func24 (by kernel_rfl) rfl
theorem en25 : Ent Tryz.prog 25 := Ent.of Tryz.func25 (by kernel_rfl) rfl
theorem en34 : Ent Tryz.prog 34 := Ent.of Tryz.func34 (by kernel_rfl) rfl
theorem en36 : Ent Tryz.prog 36 := Ent.of Tryz.func36 (by kernel_rfl) rfl
theorem en37 : Ent Tryz.prog 37 := Ent.of Tryz.func37 (by kernel_rfl) rfl
theorem en41 : Ent Tryz.prog 41 := Ent.of Tryz.func41 (by kernel_rfl) rfl
theorem en42 : Ent Tryz.prog 42 := Ent.of Tryz.func42 (by kernel_rfl) rfl
theorem en85 : Ent Tryz.prog 85 := Ent.of Tryz.func85 (by kernel_rfl) rfl
theorem allT_no {α : Type} {q : α → Bool} {l : List α} {n i : Nat} (hi : i < l.length) (hn : i < n) (h : q l[i] = false) : (l.take n).all q = false := by
  rw [List.all_eq_false]
  have hm : i < (l.take n).length := by rw [List.length_take]; omega
  exact ⟨(l.take n)[i], List.getElem_mem hm, by rw [List.getElem_take, h]; simp⟩
theorem allT_yes {α : Type} {q : α → Bool} {l : List α} {n : Nat} (h : ∀ i, (hi : i < l.length) → i < n → q l[i] = true) : (l.take n).all q = true := by
  rw [List.all_eq_true]
  intro x hx
  obtain ⟨i, hi, rfl⟩ := List.getElem_of_mem hx
  rw [List.length_take] at hi
  rw [List.getElem_take]; exact h i (by omega) (by omega)
def shortB (l : List (List UInt8)) : Bool := (l.take 20).all (fun r => decide (r.length ≤ 20)) && decide (l.length ≤ 18)
def fewB (l : List Fg) : Bool := (l.take 9).all shortB && decide (l.length ≤ 8)
theorem shortB_sz {l : List (List UInt8)} (h : shortB l = true) : l.length ≤ 18 ∧ ∀ r ∈ l, r.length ≤ 20 := by
  unfold shortB at h
  simp only [Bool.and_eq_true, decide_eq_true_eq] at h
  rw [List.take_of_length_le (by omega)] at h
  exact ⟨h.2, fun r hr => by have := List.all_eq_true.1 h.1 r hr; simpa using this⟩
theorem fewB_sz {l : List Fg} (h : fewB l = true) : l.length ≤ 8 ∧ ∀ f ∈ l, f.length ≤ 18 ∧ ∀ r ∈ f, r.length ≤ 20 := by
  unfold fewB at h
  simp only [Bool.and_eq_true, decide_eq_true_eq] at h
  rw [List.take_of_length_le (by omega)] at h
  exact ⟨h.2, fun f hf => shortB_sz (List.all_eq_true.1 h.1 f hf)⟩
theorem shortB_shp {l : List (List UInt8)} (h : shortB l = true) : shp l := by
  obtain ⟨h1, h2⟩ := shortB_sz h; exact ⟨by omega, fun r hr => by have := h2 r hr; omega⟩
def spn (lo hi : Int) : Bool := decide (lo ≤ hi) && decide (hi - lo < 6)
theorem rcOK_eq (s : Sg) (r : Rc) : rcOK s r = (inn r.nl 0 (s.far - 1) && (inn r.nh 0 (s.far - 1) && (spn r.nl r.nh && ((awayOK r.xl && awayOK r.y) && ((awayOK r.xh && awayOK r.y) && spn r.xl r.xh))))) := by
  unfold rcOK pcOK spOK spn inn awayOK
  rw [Bool.eq_iff_iff]
  simp only [Bool.and_eq_true, decide_eq_true_eq, inn]
  omega
theorem coOK_ref (l : List Fg) : coOK l = (decide (0 < l.length) && ((l.take 6).all fgOK && decide (l.length ≤ 6))) := by
  rw [coOK_eq, Bool.eq_iff_iff]
  simp only [Bool.and_eq_true, inn, decide_eq_true_eq, Bool.not_eq_true', List.any_eq_false, Bool.not_eq_true, Bool.not_eq_false', List.all_eq_true]
  constructor
  · rintro ⟨h1, h2⟩
    exact ⟨by omega, fun f hf => by have := h2 f (List.mem_of_mem_take hf); simpa using this, by omega⟩
  · rintro ⟨h1, h2, h3⟩
    rw [List.take_of_length_le h3] at h2
    exact ⟨by omega, fun f hf => by have := h2 f hf; simp [this]⟩
def askE (x : Sn) (is : Bool) : Int := if (snOK x && is) = true then 0 else 2
theorem snOK_eq (x : Sn) : snOK x = (stOK x.s && (coOK x.l && rcOK x.s x.r)) := by unfold snOK; rw [Bool.and_assoc]
theorem short_pure (l : List (List UInt8)) : APure Tryz.prog 23 [strs l] (B (shortB l)) := by
  refine apure_of (rs := [.tmp 2]) Tryz.func23 rfl rfl (Nat.le_of_ble_eq_true rfl) (by simp [AV.pureL, AV.pureB, AV.pureE, pureE_map]) (by first | rfl | (simp [AV.pureL, AV.pureB, AV.pureE, pureE_map])) fun e0 he0 => ?_
  refine aw_seq (aw_region (asr J rfl ?_))
  refine sq_nil (aw_seq (aw_seq (aw_region (asr J rfl (sq_nil (aw_block ?_))))))
  refine aw_loopk (ι := { k : Nat // k ≤ l.length ∧ k ≤ 20 ∧ ∀ i, (h : i < l.length) → i < k → decide (l[i].length ≤ 20) = true }) [0] (fun g => [(3, I g.1)]) (fun H g => H) (fun g => 20 - g.1) (⟨0, Nat.zero_le _, by omega, by omega⟩) ⟨J, J, trivial⟩ rfl ?_
  rintro ⟨k, hk, hok⟩
  dsimp only [keepS, St.put, sget, slotsOf, nn1, nn2, nn3, nn4, nn5, nn6, Nat.reduceBEq, Nat.reduceAdd, nn7, nn8]
  refine aw_seq (aw_seq (aw_region (mvr J rfl (mvs rfl J (sq_ev rfl (ev_len_map sl24 J) ?_)))))
  refine sq_ev rfl (ev_lss J J) ?_
  refine mvr J rfl ?_
  refine sq_split 8 J (fun g2_4 => ?_) (fun g2_4 => ?_)
  · skip
    have g2_4' := g2_4
    try simp only [qq] at g2_4'
    have hkL : k < l.length := by omega
    refine sq_yes rfl rfl (less_b g2_4) rfl (ev_mv (v := .raw _) J) ?_
    refine sq_yes rfl rfl (less_b g2_4) rfl (ev_lss J J) ?_
    refine sq_ev rfl (ev_pickT (v := .raw _) (less_b g2_4) J) ?_
    refine sq_nil ?_
    refine aw_cond J (fun c_11 => ?_) (fun c_11 => ?_)
    · skip
      have c_11' := c_11
      try simp only [qq] at c_11'
      refine aw_skip (aw_seq (aw_block (aw_seq (aw_region (mvs rfl J (mvr J rfl (sq_ev rfl (ev_index_map sl24 J J rfl (by omega)) ?_)))))))
      refine sq_ev rfl (ev_load_i J ty9 rfl) ?_
      refine sq_ev rfl (ev_lenS Tryz.underlying9 J) ?_
      refine sq_ev rfl (ev_gtr J J) ?_
      refine sq_nil ?_
      refine aw_cond J (fun c_19 => ?_) (fun c_19 => ?_)
      · skip
        have c_19' := c_19
        try simp only [qq] at c_19'
        refine aw_seq (aw_region (asr J rfl (sq_nil (aw_ret ?_))))
        exact retQ_pure (v := .raw _) rfl rfl (Less.eq (by rw [shortB, allT_no (i := k) (n := 20) hkL (by omega) (by simp only [decide_eq_false_iff_not]; omega)]; rfl))
      · skip
        have c_19' := c_19
        try simp only [qq] at c_19'
        refine aw_skip (aw_region (mvr J rfl (sq_ev rfl (ev_add J J (wr (by omega) (by omega))) ?_)))
        refine asr J rfl (sq_nil ?_)
        have hgood : decide (l[k].length ≤ 20) = true := by simp only [decide_eq_true_eq]; omega
        exact ⟨⟨k + 1, by omega, by omega, fun i h hi => (by by_cases e : i = k; (subst e; exact hgood); exact hok.2 i h (by omega))⟩, by simp only; omega, Sub.slots ⟨J, J, trivial⟩⟩
    · skip
      have c_11' := c_11
      try simp only [qq] at c_11'
      refine aw_exit (aw_seq (aw_region (mvs rfl J (sq_ev rfl (ev_len_map sl24 J) ?_))))
      refine sq_ev rfl (ev_leq J J) ?_
      refine asr J rfl (sq_nil (aw_ret ?_))
      exact retQ_pure (v := .raw _) rfl rfl (Less.eq (by rw [shortB, allT_yes (n := 20) (fun i h hi => hok.2 i h (by omega))]; simp; omega))
  · skip
    have g2_4' := g2_4
    try simp only [qq] at g2_4'
    refine sq_no rfl rfl (less_b g2_4) rfl rfl ?_
    refine sq_no rfl rfl (less_b g2_4) rfl rfl ?_
    refine sq_ev rfl (ev_pickF (v := .raw _) (less_b g2_4) J) ?_
    refine sq_nil ?_
    refine aw_false J ?_
    refine aw_exit (aw_seq (aw_region (mvs rfl J (sq_ev rfl (ev_len_map sl24 J) ?_))))
    refine sq_ev rfl (ev_leq J J) ?_
    refine asr J rfl (sq_nil (aw_ret ?_))
    exact retQ_pure (v := .raw _) rfl rfl (Less.eq (by rw [shortB, allT_yes (n := 20) (fun i h hi => hok.2 i h (by omega))]; simp; omega))
theorem few_pure (l : List Fg) : APure Tryz.prog 34 [figs l] (B (fewB l)) := by
 refine apure_of (rs := [.tmp 2]) Tryz.func34 rfl rfl (Nat.le_of_ble_eq_true rfl) (by simp [AV.pureL, AV.pureB, AV.pureE, pureE_map]) (by first | rfl | (simp [AV.pureL, AV.pureB, AV.pureE, pureE_map])) fun e0 he0 => ?_
 refine aw_seq (aw_region (asr J rfl ?_))
 refine sq_nil (aw_seq (aw_seq (aw_region (asr J rfl (sq_nil (aw_block ?_))))))
 refine aw_loopk (ι := { k : Nat // k ≤ l.length ∧ k ≤ 9 ∧ ∀ i, (h : i < l.length) → i < k → shortB l[i] = true }) [0] (fun g => [(3, I g.1)]) (fun H g => H) (fun g => 9 - g.1) (⟨0, Nat.zero_le _, by omega, by omega⟩) ⟨J, J, trivial⟩ rfl ?_
 rintro ⟨k, hk, hok⟩
 dsimp only [keepS, St.put, sget, slotsOf, nn1, nn2, nn3, nn4, nn5, nn6, Nat.reduceBEq, Nat.reduceAdd, nn7, nn8]
 refine aw_seq (aw_seq (aw_region (mvr J rfl (mvs rfl J (sq_ev rfl (ev_len_map sl45 J) ?_)))))
 refine sq_ev rfl (ev_lss J J) ?_
 refine mvr J rfl ?_
 refine sq_split 8 J (fun g2_4 => ?_) (fun g2_4 => ?_)
 ·
  have g2_4' := g2_4
  try simp only [qq] at g2_4'
  have hkL : k < l.length := by omega
  refine sq_yes rfl rfl (less_b g2_4) rfl (ev_mv (v := .raw _) J) ?_
  refine sq_yes rfl rfl (less_b g2_4) rfl (ev_lss J J) ?_
  refine sq_ev rfl (ev_pickT (v := .raw _) (less_b g2_4) J) ?_
  refine sq_nil ?_
  refine aw_cond J (fun c_11 => ?_) (fun c_11 => ?_)
  ·
   have c_11' := c_11
   try simp only [qq] at c_11'
   refine aw_skip (aw_seq (aw_block (aw_seq (aw_region (mvs rfl J (mvr J rfl (sq_ev rfl (ev_index_map sl45 J J rfl (by omega)) ?_)))))))
   refine sq_ev rfl (ev_fieldAddr_i fo26_0 J) ?_
   refine sq_ev rfl (ev_load_i J ty24 rfl) ?_
   refine sq_ev rfl (ev_call en23 J (short_pure _) ⟨J, trivial⟩) ?_
   refine sq_ev rfl (ev_not J) ?_
   refine sq_nil ?_
   refine aw_cond J (fun c_20 => ?_) (fun c_20 => ?_)
   ·
    have c_20' := c_20
    try simp only [qq] at c_20'
    refine aw_seq (aw_region (asr J rfl (sq_nil (aw_ret ?_))))
    exact retQ_pure (v := .raw _) rfl rfl (Less.eq (by rw [fewB, allT_no (i := k) (n := 9) hkL (by omega) (by simpa using c_20)]; rfl))
   have c_20' := c_20
   try simp only [qq] at c_20'
   refine aw_skip (aw_region (mvr J rfl (sq_ev rfl (ev_add J J (wr (by omega) (by omega))) ?_)))
   refine asr J rfl (sq_nil ?_)
   have hgood : shortB l[k] = true := by simpa using c_20
   exact ⟨⟨k + 1, by omega, by omega, fun i h hi => (by by_cases e : i = k; (subst e; exact hgood); exact hok.2 i h (by omega))⟩, by simp only; omega, Sub.slots ⟨J, J, trivial⟩⟩
  have c_11' := c_11
  try simp only [qq] at c_11'
  refine aw_exit (aw_seq (aw_region (mvs rfl J (sq_ev rfl (ev_len_map sl45 J) ?_))))
  refine sq_ev rfl (ev_leq J J) ?_
  refine asr J rfl (sq_nil (aw_ret ?_))
  exact retQ_pure (v := .raw _) rfl rfl (Less.eq (by rw [fewB, allT_yes (n := 9) (fun i h hi => hok.2 i h (by omega))]; simp; omega))
 have g2_4' := g2_4
 try simp only [qq] at g2_4'
 refine sq_no rfl rfl (less_b g2_4) rfl rfl ?_
 refine sq_no rfl rfl (less_b g2_4) rfl rfl ?_
 refine sq_ev rfl (ev_pickF (v := .raw _) (less_b g2_4) J) ?_
 refine sq_nil ?_
 refine aw_false J ?_
 refine aw_exit (aw_seq (aw_region (mvs rfl J (sq_ev rfl (ev_len_map sl45 J) ?_))))
 refine sq_ev rfl (ev_leq J J) ?_
 refine asr J rfl (sq_nil (aw_ret ?_))
 exact retQ_pure (v := .raw _) rfl rfl (Less.eq (by rw [fewB, allT_yes (n := 9) (fun i h hi => hok.2 i h (by omega))]; simp; omega))
theorem rfigures_pure (l : List Fg) : APure Tryz.prog 85 [figs l] (B ((l.take 6).all fgOK && decide (l.length ≤ 6))) := by
 refine apure_of (rs := [.tmp 2]) Tryz.func85 rfl rfl (Nat.le_of_ble_eq_true rfl) (by simp [AV.pureL, AV.pureB, AV.pureE, pureE_map]) (by first | rfl | (simp [AV.pureL, AV.pureB, AV.pureE, pureE_map])) fun e0 he0 => ?_
 refine aw_seq (aw_region (asr J rfl ?_))
 refine sq_nil (aw_seq (aw_seq (aw_region (asr J rfl (sq_nil (aw_block ?_))))))
 refine aw_loopk (ι := { k : Nat // k ≤ l.length ∧ k ≤ 6 ∧ ∀ i, (h : i < l.length) → i < k → fgOK l[i] = true }) [0] (fun g => [(3, I g.1)]) (fun H g => H) (fun g => 6 - g.1) (⟨0, Nat.zero_le _, by omega, by omega⟩) ⟨J, J, trivial⟩ rfl ?_
 rintro ⟨k, hk, hok⟩
 dsimp only [keepS, St.put, sget, slotsOf, nn1, nn2, nn3, nn4, nn5, nn6, Nat.reduceBEq, Nat.reduceAdd, nn7, nn8]
 refine aw_seq (aw_seq (aw_region (mvr J rfl (mvs rfl J (sq_ev rfl (ev_len_map sl45 J) ?_)))))
 refine sq_ev rfl (ev_lss J J) ?_
 refine mvr J rfl ?_
 refine sq_split 8 J (fun g2_4 => ?_) (fun g2_4 => ?_)
 ·
  have g2_4' := g2_4
  try simp only [qq] at g2_4'
  have hkL : k < l.length := by omega
  refine sq_yes rfl rfl (less_b g2_4) rfl (ev_mv (v := .raw _) J) ?_
  refine sq_yes rfl rfl (less_b g2_4) rfl (ev_lss J J) ?_
  refine sq_ev rfl (ev_pickT (v := .raw _) (less_b g2_4) J) ?_
  refine sq_nil ?_
  refine aw_cond J (fun c_11 => ?_) (fun c_11 => ?_)
  ·
   have c_11' := c_11
   try simp only [qq] at c_11'
   refine aw_skip (aw_seq (aw_block (aw_seq (aw_region (mvs rfl J (mvr J rfl (sq_ev rfl (ev_index_map sl45 J J rfl (by omega)) ?_)))))))
   refine sq_ev rfl (ev_load_agg_i J ty26 (by exact Nat.le_of_ble_eq_true rfl)) ?_
   refine sq_ev rfl (ev_call en25 J (rfigure_pure _) ⟨J, trivial⟩) ?_
   refine sq_ev rfl (ev_not J) ?_
   refine sq_nil ?_
   refine aw_cond J (fun c_19 => ?_) (fun c_19 => ?_)
   ·
    have c_19' := c_19
    try simp only [qq] at c_19'
    refine aw_seq (aw_region (asr J rfl (sq_nil (aw_ret ?_))))
    exact retQ_pure (v := .raw _) rfl rfl (Less.eq (by rw [allT_no (i := k) (n := 6) hkL (by omega) (by simpa using c_19)]; rfl))
   have c_19' := c_19
   try simp only [qq] at c_19'
   refine aw_skip (aw_region (mvr J rfl (sq_ev rfl (ev_add J J (wr (by omega) (by omega))) ?_)))
   refine asr J rfl (sq_nil ?_)
   have hgood : fgOK l[k] = true := by simpa using c_19
   exact ⟨⟨k + 1, by omega, by omega, fun i h hi => (by by_cases e : i = k; (subst e; exact hgood); exact hok.2 i h (by omega))⟩, by simp only; omega, Sub.slots ⟨J, J, trivial⟩⟩
  have c_11' := c_11
  try simp only [qq] at c_11'
  refine aw_exit (aw_seq (aw_region (mvs rfl J (sq_ev rfl (ev_len_map sl45 J) ?_))))
  refine sq_ev rfl (ev_leq J J) ?_
  refine asr J rfl (sq_nil (aw_ret ?_))
  exact retQ_pure (v := .raw _) rfl rfl (Less.eq (by rw [allT_yes (n := 6) (fun i h hi => hok.2 i h (by omega))]; simp; omega))
 have g2_4' := g2_4
 try simp only [qq] at g2_4'
 refine sq_no rfl rfl (less_b g2_4) rfl rfl ?_
 refine sq_no rfl rfl (less_b g2_4) rfl rfl ?_
 refine sq_ev rfl (ev_pickF (v := .raw _) (less_b g2_4) J) ?_
 refine sq_nil ?_
 refine aw_false J ?_
 refine aw_exit (aw_seq (aw_region (mvs rfl J (sq_ev rfl (ev_len_map sl45 J) ?_))))
 refine sq_ev rfl (ev_leq J J) ?_
 refine asr J rfl (sq_nil (aw_ret ?_))
 exact retQ_pure (v := .raw _) rfl rfl (Less.eq (by rw [allT_yes (n := 6) (fun i h hi => hok.2 i h (by omega))]; simp; omega))
theorem rcompany_pure (l : List Fg) : APure Tryz.prog 111 [figs l] (B (coOK l)) := by
 refine apure_of (rs := [.tmp 2]) Tryz.func111 rfl rfl (Nat.le_of_ble_eq_true rfl) (by simp [AV.pureL, AV.pureB, AV.pureE, pureE_map]) (by first | rfl | (simp [AV.pureL, AV.pureB, AV.pureE, pureE_map])) fun e0 he0 => ?_
 refine aw_seq (aw_region (asr J rfl (sq_nil (aw_seq (aw_region (mvs rfl J (sq_ev rfl (ev_len_map sl45 J) ?_)))))))
 refine sq_ev rfl (ev_gtr J J) ?_
 refine mvr J rfl ?_
 refine sq_split 6 J (fun g1_3 => ?_) (fun g1_3 => ?_)
 ·
  have g1_3' := g1_3
  try simp only [qq] at g1_3'
  refine sq_yes rfl rfl (less_b g1_3) rfl (ev_mv (v := .sl _ _) J) ?_
  refine sq_yes rfl rfl (less_b g1_3) rfl (ev_call en85 J (rfigures_pure l) ⟨J, trivial⟩) ?_
  refine sq_ev rfl (ev_pickT (v := .raw _) (less_b g1_3) J) ?_
  refine asr J rfl (sq_nil (aw_ret ?_))
  exact retQ_pure (v := .raw _) rfl rfl (Less.eq (by rw [coOK_ref]; simp [*] <;> (intros; omega)))
 have g1_3' := g1_3
 try simp only [qq] at g1_3'
 refine sq_no rfl rfl (less_b g1_3) rfl rfl ?_
 refine sq_no rfl rfl (less_b g1_3) rfl rfl ?_
 refine sq_ev rfl (ev_pickF (v := .raw _) (less_b g1_3) J) ?_
 refine asr J rfl (sq_nil (aw_ret ?_))
 exact retQ_pure (v := .raw _) rfl rfl (Less.eq (by rw [coOK_ref]; simp [*] <;> (intros; omega)))
theorem rspan_pure (a b : Int) (h1 : -1000 ≤ a ∧ a ≤ 1000) (h2 : -1000 ≤ b ∧ b ≤ 1000) : APure Tryz.prog 154 [.agg [I a, I b]] (B (spn a b)) := by
 refine apure_of (rs := [.tmp 2]) Tryz.func154 rfl rfl (Nat.le_of_ble_eq_true rfl) (by simp [AV.pureL, AV.pureB, AV.pureE, pureE_map]) (by first | rfl | (simp [AV.pureL, AV.pureB, AV.pureE, pureE_map])) fun e0 he0 => ?_
 refine aw_seq (aw_region (sq_box rfl J rfl (asr J rfl (sq_nil (aw_seq (aw_region (sq_ev rfl (ev_fieldAddr fo47_0 J) ?_)))))))
 refine sq_ev rfl (ev_load J rfl ty3 rfl) ?_
 refine sq_ev rfl (ev_fieldAddr fo47_1 J) ?_
 refine sq_ev rfl (ev_load J rfl ty3 rfl) ?_
 refine sq_ev rfl (ev_leq J J) ?_
 refine mvr J rfl ?_
 refine sq_split 8 J (fun g1_5 => ?_) (fun g1_5 => ?_)
 ·
  have g1_5' := g1_5
  try simp only [qq] at g1_5'
  refine sq_yes rfl rfl (less_b g1_5) rfl (ev_fieldAddr fo47_1 J) ?_
  refine sq_yes rfl rfl (less_b g1_5) rfl (ev_load J rfl ty3 rfl) ?_
  refine sq_yes rfl rfl (less_b g1_5) rfl (ev_fieldAddr fo47_0 J) ?_
  refine sq_yes rfl rfl (less_b g1_5) rfl (ev_load J rfl ty3 rfl) ?_
  refine sq_yes rfl rfl (less_b g1_5) rfl (ev_sub J J (wr (by omega) (by omega))) ?_
  refine sq_yes rfl rfl (less_b g1_5) rfl (ev_lss J J) ?_
  refine sq_ev rfl (ev_pickT (v := .raw _) (less_b g1_5) J) ?_
  refine asr J rfl (sq_nil (aw_ret ?_))
  exact retQ_pure (v := .raw _) rfl rfl (Less.eq (by unfold spn; simp [*]))
 have g1_5' := g1_5
 try simp only [qq] at g1_5'
 refine sq_no rfl rfl (less_b g1_5) rfl rfl ?_
 refine sq_no rfl rfl (less_b g1_5) rfl rfl ?_
 refine sq_no rfl rfl (less_b g1_5) rfl rfl ?_
 refine sq_no rfl rfl (less_b g1_5) rfl rfl ?_
 refine sq_no rfl rfl (less_b g1_5) rfl rfl ?_
 refine sq_no rfl rfl (less_b g1_5) rfl rfl ?_
 refine sq_ev rfl (ev_pickF (v := .raw _) (less_b g1_5) J) ?_
 refine asr J rfl (sq_nil (aw_ret ?_))
 exact retQ_pure (v := .raw _) rfl rfl (Less.eq (by unfold spn; simp [*]))
theorem rreach_pure (s : Sg) (r : Rc) (h : 2 ≤ s.far ∧ s.far ≤ 40) : APure Tryz.prog 112 [stA s, rcA r] (B (rcOK s r)) := by
 refine apure_of (rs := [.tmp 4]) Tryz.func112 rfl rfl (Nat.le_of_ble_eq_true rfl) (by simp [AV.pureL, AV.pureB, AV.pureE, pureE_map]) (by first | rfl | (simp [AV.pureL, AV.pureB, AV.pureE, pureE_map])) fun e0 he0 => ?_
 refine aw_seq (aw_region ?_)
 refine sq_box rfl J rfl (sq_box rfl J rfl (asr J rfl (sq_nil (aw_seq (aw_region (sq_ev rfl (ev_fieldAddr fo49_0 J) ?_))))))
 refine sq_ev rfl (ev_fieldAddr fo47_0 J) ?_
 refine sq_ev rfl (ev_load J rfl ty3 rfl) ?_
 refine sq_ev rfl (ev_fieldAddr fo23_2 J) ?_
 refine sq_ev rfl (ev_load J rfl ty3 rfl) ?_
 refine sq_ev rfl (ev_sub J J (wr (by omega) (by omega))) ?_
 refine sq_ev rfl (ev_call en89 J (rin_pure _ _ _) ⟨J, J, J, trivial⟩) ?_
 refine mvr J rfl ?_
 refine sq_split 12 J (fun g1_7 => ?_) (fun g1_7 => ?_)
 ·
  have g1_7' := g1_7
  try simp only [qq] at g1_7'
  refine sq_yes rfl rfl (less_b g1_7) rfl (ev_fieldAddr fo49_0 J) ?_
  refine sq_yes rfl rfl (less_b g1_7) rfl (ev_fieldAddr fo47_1 J) ?_
  refine sq_yes rfl rfl (less_b g1_7) rfl (ev_load J rfl ty3 rfl) ?_
  refine sq_yes rfl rfl (less_b g1_7) rfl (ev_fieldAddr fo23_2 J) ?_
  refine sq_yes rfl rfl (less_b g1_7) rfl (ev_load J rfl ty3 rfl) ?_
  refine sq_yes rfl rfl (less_b g1_7) rfl (ev_sub J J (wr (by omega) (by omega))) ?_
  refine sq_yes rfl rfl (less_b g1_7) rfl (ev_call en89 J (rin_pure _ _ _) ⟨J, J, J, trivial⟩) ?_
  refine sq_ev rfl (ev_pickT (v := .raw _) (less_b g1_7) J) ?_
  refine mvr J rfl ?_
  refine sq_split 21 J (fun g1_16 => ?_) (fun g1_16 => ?_)
  ·
   have g1_16' := g1_16
   try simp only [qq] at g1_16'
   refine sq_yes rfl rfl (less_b g1_16) rfl (ev_fieldAddr fo49_0 J) ?_
   refine sq_yes rfl rfl (less_b g1_16) rfl (ev_load_agg J rfl ty47 rfl) ?_
   refine sq_yes rfl rfl (less_b g1_16) rfl (ev_call en154 J (rspan_pure r.nl r.nh (by have := g1_7; unfold inn at this; simp only [Bool.and_eq_true, decide_eq_true_eq] at this; omega) (by have := g1_16; unfold inn at this; simp only [Bool.and_eq_true, decide_eq_true_eq] at this; omega)) ⟨J, trivial⟩) ?_
   refine sq_ev rfl (ev_pickT (v := .raw _) (less_b g1_16) J) ?_
   refine mvr J rfl ?_
   refine sq_split 26 J (fun g1_21 => ?_) (fun g1_21 => ?_)
   ·
    have g1_21' := g1_21
    try simp only [qq] at g1_21'
    refine sq_yes rfl rfl (less_b g1_21) rfl (ev_fieldAddr fo49_1 J) ?_
    refine sq_yes rfl rfl (less_b g1_21) rfl (ev_fieldAddr fo47_0 J) ?_
    refine sq_yes rfl rfl (less_b g1_21) rfl (ev_load J rfl ty3 rfl) ?_
    refine sq_yes rfl rfl (less_b g1_21) rfl (ev_fieldAddr fo49_2 J) ?_
    refine sq_yes rfl rfl (less_b g1_21) rfl (ev_load J rfl ty3 rfl) ?_
    refine sq_yes rfl rfl (less_b g1_21) rfl (ev_call en31 J (rat_pure _ _) ⟨J, J, trivial⟩) ?_
    refine sq_ev rfl (ev_pickT (v := .raw _) (less_b g1_21) J) ?_
    refine mvr J rfl ?_
    refine sq_split 34 J (fun g1_29 => ?_) (fun g1_29 => ?_)
    ·
     have g1_29' := g1_29
     try simp only [qq] at g1_29'
     refine sq_yes rfl rfl (less_b g1_29) rfl (ev_fieldAddr fo49_1 J) ?_
     refine sq_yes rfl rfl (less_b g1_29) rfl (ev_fieldAddr fo47_1 J) ?_
     refine sq_yes rfl rfl (less_b g1_29) rfl (ev_load J rfl ty3 rfl) ?_
     refine sq_yes rfl rfl (less_b g1_29) rfl (ev_fieldAddr fo49_2 J) ?_
     refine sq_yes rfl rfl (less_b g1_29) rfl (ev_load J rfl ty3 rfl) ?_
     refine sq_yes rfl rfl (less_b g1_29) rfl (ev_call en31 J (rat_pure _ _) ⟨J, J, trivial⟩) ?_
     refine sq_ev rfl (ev_pickT (v := .raw _) (less_b g1_29) J) ?_
     refine mvr J rfl ?_
     refine sq_split 42 J (fun g1_37 => ?_) (fun g1_37 => ?_)
     ·
      have g1_37' := g1_37
      try simp only [qq] at g1_37'
      refine sq_yes rfl rfl (less_b g1_37) rfl (ev_fieldAddr fo49_1 J) ?_
      refine sq_yes rfl rfl (less_b g1_37) rfl (ev_load_agg J rfl ty47 rfl) ?_
      refine sq_yes rfl rfl (less_b g1_37) rfl (ev_call en154 J (rspan_pure r.xl r.xh (by have := g1_29; unfold awayOK inn at this; simp only [Bool.and_eq_true, decide_eq_true_eq] at this; omega) (by have := g1_37; unfold awayOK inn at this; simp only [Bool.and_eq_true, decide_eq_true_eq] at this; omega)) ⟨J, trivial⟩) ?_
      refine sq_ev rfl (ev_pickT (v := .raw _) (less_b g1_37) J) ?_
      refine asr J rfl (sq_nil (aw_ret ?_))
      exact retQ_pure (v := .raw _) rfl rfl (Less.eq (by rw [rcOK_eq]; first | (simp [*]; done) | (cases hq : awayOK r.xh <;> cases hq2 : awayOK r.y <;> simp_all)))
     have g1_37' := g1_37
     try simp only [qq] at g1_37'
     refine sq_no rfl rfl (less_b g1_37) rfl rfl ?_
     refine sq_no rfl rfl (less_b g1_37) rfl rfl ?_
     refine sq_no rfl rfl (less_b g1_37) rfl rfl ?_
     refine sq_ev rfl (ev_pickF (v := .raw _) (less_b g1_37) J) ?_
     refine asr J rfl (sq_nil (aw_ret ?_))
     exact retQ_pure (v := .raw _) rfl rfl (Less.eq (by rw [rcOK_eq]; first | (simp [*]; done) | (cases hq : awayOK r.xh <;> cases hq2 : awayOK r.y <;> simp_all)))
    have g1_29' := g1_29
    try simp only [qq] at g1_29'
    refine sq_no rfl rfl (less_b g1_29) rfl rfl ?_
    refine sq_no rfl rfl (less_b g1_29) rfl rfl ?_
    refine sq_no rfl rfl (less_b g1_29) rfl rfl ?_
    refine sq_no rfl rfl (less_b g1_29) rfl rfl ?_
    refine sq_no rfl rfl (less_b g1_29) rfl rfl ?_
    refine sq_no rfl rfl (less_b g1_29) rfl rfl ?_
    refine sq_ev rfl (ev_pickF (v := .raw _) (less_b g1_29) J) ?_
    refine mvr J rfl ?_
    refine sq_no rfl rfl J rfl rfl (sq_no rfl rfl J rfl rfl (sq_no rfl rfl J rfl rfl (pf rfl J J (asr J rfl (sq_nil (aw_ret ?_))))))
    exact retQ_pure (v := .raw _) rfl rfl (Less.eq (by rw [rcOK_eq]; first | (simp [*]; done) | (cases hq : awayOK r.xh <;> cases hq2 : awayOK r.y <;> simp_all)))
   have g1_21' := g1_21
   try simp only [qq] at g1_21'
   refine sq_no rfl rfl (less_b g1_21) rfl rfl ?_
   refine sq_no rfl rfl (less_b g1_21) rfl rfl ?_
   refine sq_no rfl rfl (less_b g1_21) rfl rfl ?_
   refine sq_no rfl rfl (less_b g1_21) rfl rfl ?_
   refine sq_no rfl rfl (less_b g1_21) rfl rfl ?_
   refine sq_no rfl rfl (less_b g1_21) rfl rfl ?_
   refine sq_ev rfl (ev_pickF (v := .raw _) (less_b g1_21) J) ?_
   refine mvr J rfl (sq_no rfl rfl J rfl rfl ?_)
   refine sq_no rfl rfl J rfl rfl (sq_no rfl rfl J rfl rfl (sq_no rfl rfl J rfl rfl (sq_no rfl rfl J rfl rfl (sq_no rfl rfl J rfl rfl (pf rfl J J (mvr J rfl ?_))))))
   refine sq_no rfl rfl J rfl rfl (sq_no rfl rfl J rfl rfl (sq_no rfl rfl J rfl rfl (pf rfl J J (asr J rfl (sq_nil (aw_ret ?_))))))
   exact retQ_pure (v := .raw _) rfl rfl (Less.eq (by rw [rcOK_eq]; first | (simp [*]; done) | (cases hq : awayOK r.xh <;> cases hq2 : awayOK r.y <;> simp_all)))
  have g1_16' := g1_16
  try simp only [qq] at g1_16'
  refine sq_no rfl rfl (less_b g1_16) rfl rfl ?_
  refine sq_no rfl rfl (less_b g1_16) rfl rfl ?_
  refine sq_no rfl rfl (less_b g1_16) rfl rfl ?_
  refine sq_ev rfl (ev_pickF (v := .raw _) (less_b g1_16) J) ?_
  refine mvr J rfl (sq_no rfl rfl J rfl rfl (sq_no rfl rfl J rfl rfl ?_))
  refine sq_no rfl rfl J rfl rfl (sq_no rfl rfl J rfl rfl (sq_no rfl rfl J rfl rfl (sq_no rfl rfl J rfl rfl (pf rfl J J (mvr J rfl (sq_no rfl rfl J rfl rfl ?_))))))
  refine sq_no rfl rfl J rfl rfl (sq_no rfl rfl J rfl rfl (sq_no rfl rfl J rfl rfl (sq_no rfl rfl J rfl rfl (sq_no rfl rfl J rfl rfl (pf rfl J J (mvr J rfl ?_))))))
  refine sq_no rfl rfl J rfl rfl (sq_no rfl rfl J rfl rfl (sq_no rfl rfl J rfl rfl (pf rfl J J (asr J rfl (sq_nil (aw_ret ?_))))))
  exact retQ_pure (v := .raw _) rfl rfl (Less.eq (by rw [rcOK_eq]; first | (simp [*]; done) | (cases hq : awayOK r.xh <;> cases hq2 : awayOK r.y <;> simp_all)))
 have g1_7' := g1_7
 try simp only [qq] at g1_7'
 refine sq_no rfl rfl (less_b g1_7) rfl rfl ?_
 refine sq_no rfl rfl (less_b g1_7) rfl rfl ?_
 refine sq_no rfl rfl (less_b g1_7) rfl rfl ?_
 refine sq_no rfl rfl (less_b g1_7) rfl rfl ?_
 refine sq_no rfl rfl (less_b g1_7) rfl rfl ?_
 refine sq_no rfl rfl (less_b g1_7) rfl rfl ?_
 refine sq_no rfl rfl (less_b g1_7) rfl rfl ?_
 refine sq_ev rfl (ev_pickF (v := .raw _) (less_b g1_7) J) ?_
 refine mvr J rfl ?_
 refine sq_no rfl rfl J rfl rfl (sq_no rfl rfl J rfl rfl (sq_no rfl rfl J rfl rfl (pf rfl J J (mvr J rfl (sq_no rfl rfl J rfl rfl (sq_no rfl rfl J rfl rfl ?_))))))
 refine sq_no rfl rfl J rfl rfl (sq_no rfl rfl J rfl rfl (sq_no rfl rfl J rfl rfl (sq_no rfl rfl J rfl rfl (pf rfl J J (mvr J rfl (sq_no rfl rfl J rfl rfl ?_))))))
 refine sq_no rfl rfl J rfl rfl (sq_no rfl rfl J rfl rfl (sq_no rfl rfl J rfl rfl (sq_no rfl rfl J rfl rfl (sq_no rfl rfl J rfl rfl (pf rfl J J (mvr J rfl ?_))))))
 refine sq_no rfl rfl J rfl rfl (sq_no rfl rfl J rfl rfl (sq_no rfl rfl J rfl rfl (pf rfl J J (asr J rfl (sq_nil (aw_ret ?_))))))
 exact retQ_pure (v := .raw _) rfl rfl (Less.eq (by rw [rcOK_eq]; first | (simp [*]; done) | (cases hq : awayOK r.xh <;> cases hq2 : awayOK r.y <;> simp_all)))
theorem asked_pure (x : Sn) (is : Bool) : APure Tryz.prog 36 [stA x.s, figs x.l, rcA x.r, B is] (I (askE x is)) := by
 refine apure_of (rs := [.tmp 8]) Tryz.func36 rfl rfl (Nat.le_of_ble_eq_true rfl) (by simp [AV.pureL, AV.pureB, AV.pureE, pureE_map]) (by first | rfl | (simp [AV.pureL, AV.pureB, AV.pureE, pureE_map])) fun e0 he0 => ?_
 refine aw_seq (aw_region (sq_box rfl J rfl ?_))
 refine sq_box rfl J rfl (asr J rfl (sq_nil (aw_seq (aw_seq (aw_region (sq_ev rfl (ev_load_agg J rfl ty23 rfl) ?_))))))
 refine sq_ev rfl (ev_call en24 J (rstage_pure x.s) ⟨J, trivial⟩) ?_
 refine sq_ev rfl (ev_not J) ?_
 refine mvr J rfl ?_
 refine sq_split 12 J (fun g1_3 => ?_) (fun g1_3 => ?_)
 ·
  have g1_3' := g1_3
  try simp only [qq] at g1_3'
  refine sq_no rfl rfl (less_b g1_3) rfl rfl ?_
  refine sq_no rfl rfl (less_b g1_3) rfl rfl ?_
  refine sq_no rfl rfl (less_b g1_3) rfl rfl ?_
  refine sq_ev rfl (ev_pickT (v := .raw _) (less_b g1_3) J) ?_
  refine mvr J rfl (sq_no rfl rfl J rfl rfl (sq_no rfl rfl J rfl rfl (sq_no rfl rfl J rfl rfl (sq_no rfl rfl J rfl rfl (sq_ev rfl (ev_pickT (v := .raw _) J J) ?_)))))
  refine mvr J rfl (sq_no rfl rfl J rfl rfl (sq_no rfl rfl J rfl rfl (sq_ev rfl (ev_pickT (v := .raw _) J J) ?_)))
  refine sq_nil ?_
  refine aw_true J ?_
  refine aw_seq (aw_region (asr J rfl (sq_nil (aw_ret ?_))))
  exact retQ_pure (v := .raw _) rfl rfl (Less.eq (by unfold askE; rw [snOK_eq]; simp_all))
 have g1_3' := g1_3
 try simp only [qq] at g1_3'
 refine sq_yes rfl rfl (less_b g1_3) rfl (ev_mv (v := .sl _ _) J) ?_
 refine sq_yes rfl rfl (less_b g1_3) rfl (ev_call en111 J (rcompany_pure x.l) ⟨J, trivial⟩) ?_
 refine sq_yes rfl rfl (less_b g1_3) rfl (ev_not J) ?_
 refine sq_ev rfl (ev_pickF (v := .raw _) (less_b g1_3) J) ?_
 refine mvr J rfl ?_
 refine sq_split 17 J (fun g1_8 => ?_) (fun g1_8 => ?_)
 ·
  have g1_8' := g1_8
  try simp only [qq] at g1_8'
  refine sq_no rfl rfl (less_b g1_8) rfl rfl ?_
  refine sq_no rfl rfl (less_b g1_8) rfl rfl ?_
  refine sq_no rfl rfl (less_b g1_8) rfl rfl ?_
  refine sq_no rfl rfl (less_b g1_8) rfl rfl ?_
  refine sq_ev rfl (ev_pickT (v := .raw _) (less_b g1_8) J) ?_
  refine mvr J rfl (sq_no rfl rfl J rfl rfl (sq_no rfl rfl J rfl rfl (sq_ev rfl (ev_pickT (v := .raw _) J J) ?_)))
  refine sq_nil ?_
  refine aw_true J ?_
  refine aw_seq (aw_region (asr J rfl (sq_nil (aw_ret ?_))))
  exact retQ_pure (v := .raw _) rfl rfl (Less.eq (by unfold askE; rw [snOK_eq]; simp_all))
 have g1_8' := g1_8
 try simp only [qq] at g1_8'
 refine sq_yes rfl rfl (less_b g1_8) rfl (ev_load_agg J rfl ty23 rfl) ?_
 refine sq_yes rfl rfl (less_b g1_8) rfl (ev_load_agg J rfl ty49 rfl) ?_
 refine sq_yes rfl rfl (less_b g1_8) rfl (ev_call en112 J (rreach_pure x.s x.r (stOK_iff.1 (by simpa using g1_3)).2.2.1) ⟨J, J, trivial⟩) ?_
 refine sq_yes rfl rfl (less_b g1_8) rfl (ev_not J) ?_
 refine sq_ev rfl (ev_pickF (v := .raw _) (less_b g1_8) J) ?_
 refine mvr J rfl ?_
 refine sq_split 23 J (fun g1_14 => ?_) (fun g1_14 => ?_)
 ·
  have g1_14' := g1_14
  try simp only [qq] at g1_14'
  refine sq_no rfl rfl (less_b g1_14) rfl rfl ?_
  refine sq_no rfl rfl (less_b g1_14) rfl rfl ?_
  refine sq_ev rfl (ev_pickT (v := .raw _) (less_b g1_14) J) ?_
  refine sq_nil ?_
  refine aw_true J ?_
  refine aw_seq (aw_region (asr J rfl (sq_nil (aw_ret ?_))))
  exact retQ_pure (v := .raw _) rfl rfl (Less.eq (by unfold askE; rw [snOK_eq]; simp_all))
 have g1_14' := g1_14
 try simp only [qq] at g1_14'
 refine sq_yes rfl rfl (less_b g1_14) rfl (ev_mv (v := .raw _) J) ?_
 refine sq_yes rfl rfl (less_b g1_14) rfl (ev_not J) ?_
 refine sq_ev rfl (ev_pickF (v := .raw _) (less_b g1_14) J) ?_
 refine sq_nil ?_
 refine aw_cond J (fun c_26 => ?_) (fun c_26 => ?_)
 ·
  have c_26' := c_26
  try simp only [qq] at c_26'
  refine aw_seq (aw_region (asr J rfl (sq_nil (aw_ret ?_))))
  exact retQ_pure (v := .raw _) rfl rfl (Less.eq (by unfold askE; rw [snOK_eq]; simp_all))
 have c_26' := c_26
 try simp only [qq] at c_26'
 refine aw_skip (aw_seq (aw_region (asr J rfl (sq_nil (aw_ret ?_)))))
 exact retQ_pure (v := .raw _) rfl rfl (Less.eq (by unfold askE; rw [snOK_eq]; simp_all))
theorem rsight_pure (s : Sg) (l : List (List UInt8)) (hs : shp l) : APure Tryz.prog 37 [stA s, strs l] (B (siOK s l)) := by
 refine apure_of (rs := [.tmp 4]) Tryz.func37 rfl rfl (Nat.le_of_ble_eq_true rfl) (by simp [AV.pureL, AV.pureB, AV.pureE, pureE_map]) (by first | rfl | (simp [AV.pureL, AV.pureB, AV.pureE, pureE_map])) fun e0 he0 => ?_
 refine aw_seq (aw_region (sq_box rfl J rfl ?_))
 refine asr J rfl (sq_nil (aw_seq (aw_seq (aw_region (mvs rfl J (sq_ev rfl (ev_len_map sl24 J) ?_))))))
 refine sq_ev rfl (ev_fieldAddr fo23_1 J) ?_
 refine sq_ev rfl (ev_load J rfl ty3 rfl) ?_
 refine sq_ev rfl (ev_neq J J) ?_
 refine sq_nil ?_
 refine aw_cond J (fun c_12 => ?_) (fun c_12 => ?_)
 ·
  have c_12' := c_12
  try simp only [qq] at c_12'
  refine aw_seq (aw_region (asr J rfl (sq_nil (aw_ret ?_))))
  exact retQ_pure (v := .raw _) rfl rfl (Less.eq (by unfold siOK; rw [decide_eq_false c_12']; rfl))
 have c_12' := c_12
 try simp only [qq] at c_12'
 have hlen : (l.length : Int) = s.high := by omega
 refine aw_skip (aw_seq (aw_seq (aw_region (asr J rfl (sq_nil (aw_block ?_))))))
 refine aw_loopk (ι := { m : Nat // m ≤ l.length ∧ ∀ i, (h : i < l.length) → i < m → siRow s.wide l[i] = true }) [1, 2] (fun g => [(5, I g.1)]) (fun H g => H) (fun g => l.length - g.1) (⟨0, Nat.zero_le _, by omega⟩) ⟨J, J, J, trivial⟩ rfl ?_
 rintro ⟨m, hm, hok⟩
 dsimp only [keepS, St.put, sget, slotsOf, nn1, nn2, nn3, nn4, nn5, nn6, Nat.reduceBEq, Nat.reduceAdd, nn7, nn8]
 have hs1 := hs.1
 refine aw_seq (aw_seq (aw_region (mvr J rfl (mvs rfl J (sq_ev rfl (ev_len_map sl24 J) ?_)))))
 refine sq_ev rfl (ev_lss J J) ?_
 refine sq_nil ?_
 refine aw_cond J (fun c_16 => ?_) (fun c_16 => ?_)
 ·
  have c_16' := c_16
  try simp only [qq] at c_16'
  have hmL : m < l.length := by omega
  have hrl := hs.2 _ (List.getElem_mem hmL)
  refine aw_skip (aw_seq (aw_block (aw_seq (aw_seq ?_))))
  refine aw_draw 8 mo (by kernel_rfl) ?_
  refine dr_ev rfl (ev_mv (v := .sl _ _) J) ?_
  refine dr_ev rfl (ev_mv (v := .raw _) J) ?_
  refine dr_ev rfl (ev_index_map sl24 J J rfl (by omega)) ?_
  refine dr_ev rfl (ev_load_i J ty9 rfl) ?_
  refine dr_ev rfl (ev_lenS Tryz.underlying9 J) ?_
  refine dr_ev rfl (ev_fieldAddr fo23_0 J) ?_
  refine dr_ev rfl (ev_load J rfl ty3 rfl) ?_
  refine dr_ev rfl (ev_neq J J) ?_
  refine dr_end (sq_nil ?_)
  refine aw_cond J (fun c_26 => ?_) (fun c_26 => ?_)
  ·
   have c_26' := c_26
   try simp only [qq] at c_26'
   refine aw_seq (aw_region (asr J rfl (sq_nil (aw_ret ?_))))
   exact retQ_pure (v := .raw _) rfl rfl (Less.eq (by rw [siOK_bad hmL (by rw [siRow_eq, decide_eq_false (by simpa using c_26')]; rfl)]))
  have c_26' := c_26
  try simp only [qq] at c_26'
  refine aw_skip (aw_seq (aw_region (asr J rfl (sq_nil (aw_block ?_)))))
  refine aw_loopk (ι := { k : Nat // k ≤ l[m].length ∧ ∀ i, (h : i < l[m].length) → i < k → sBad l[m][i] = false }) [1, 2, 5] (fun g => [(6, I g.1)]) (fun H g => H) (fun g => l[m].length - g.1) (⟨0, Nat.zero_le _, by omega⟩) ⟨J, J, J, J, trivial⟩ rfl ?_
  rintro ⟨k, hk, hok2⟩
  dsimp only [keepS, St.put, sget, slotsOf, nn1, nn2, nn3, nn4, nn5, nn6, Nat.reduceBEq, Nat.reduceAdd, nn7, nn8]
  refine aw_seq (aw_seq (aw_region (mvr J rfl (mvs rfl J (mvr J rfl (sq_ev rfl (ev_index_map sl24 J J rfl (by omega)) ?_))))))
  refine sq_ev rfl (ev_load_i J ty9 rfl) ?_
  refine sq_ev rfl (ev_lenS Tryz.underlying9 J) ?_
  refine sq_ev rfl (ev_lss J J) ?_
  refine sq_nil ?_
  refine aw_cond J (fun c_33 => ?_) (fun c_33 => ?_)
  ·
   have c_33' := c_33
   try simp only [qq] at c_33'
   have hkL : k < l[m].length := by omega
   refine aw_skip (aw_seq (aw_block (aw_seq (aw_region (mvs rfl J (mvr J rfl (sq_ev rfl (ev_index_map sl24 J J rfl (by omega)) ?_)))))))
   refine sq_ev rfl (ev_load_i J ty9 rfl) ?_
   refine mvr J rfl (sq_ev rfl (ev_idxS Tryz.underlying9 J J rfl (by omega)) ?_)
   refine asr J rfl (sq_nil (aw_seq (aw_region (mvr J rfl (sq_ev rfl (ev_neq J J) ?_)))))
   refine mvr J rfl ?_
   refine sq_split 44 J (fun g12_2 => ?_) (fun g12_2 => ?_)
   ·
    have g12_2' := g12_2
    try simp only [qq] at g12_2'
    refine sq_yes rfl rfl (less_b g12_2) rfl (ev_mv (v := .raw _) J) ?_
    refine sq_yes rfl rfl (less_b g12_2) rfl (ev_neq J J) ?_
    refine sq_ev rfl (ev_pickT (v := .raw _) (less_b g12_2) J) ?_
    refine mvr J rfl ?_
    refine sq_split 48 J (fun g12_6 => ?_) (fun g12_6 => ?_)
    ·
     have g12_6' := g12_6
     try simp only [qq] at g12_6'
     refine sq_yes rfl rfl (less_b g12_6) rfl (ev_mv (v := .raw _) J) ?_
     refine sq_yes rfl rfl (less_b g12_6) rfl (ev_neq J J) ?_
     refine sq_ev rfl (ev_pickT (v := .raw _) (less_b g12_6) J) ?_
     refine mvr J rfl ?_
     refine sq_split 52 J (fun g12_10 => ?_) (fun g12_10 => ?_)
     ·
      have g12_10' := g12_10
      try simp only [qq] at g12_10'
      refine sq_yes rfl rfl (less_b g12_10) rfl (ev_mv (v := .raw _) J) ?_
      refine sq_yes rfl rfl (less_b g12_10) rfl (ev_neq J J) ?_
      refine sq_ev rfl (ev_pickT (v := .raw _) (less_b g12_10) J) ?_
      refine sq_nil ?_
      refine aw_cond J (fun c_55 => ?_) (fun c_55 => ?_)
      ·
       have c_55' := c_55
       try simp only [qq] at c_55'
       refine aw_seq (aw_region (asr J rfl (sq_nil (aw_ret ?_))))
       exact retQ_pure (v := .raw _) rfl rfl (Less.eq (by rw [siOK_bad hmL (by rw [siRow_eq, List.any_eq_true.2 ⟨_, List.getElem_mem hkL, by rw [sBad_eq]; simp only [dec35n, dec43n, dec46n, dec63n] at *; simp_all⟩]; simp)]))
      have c_55' := c_55
      try simp only [qq] at c_55'
      refine aw_skip (aw_region (mvr J rfl (sq_ev rfl (ev_add J J (wr (by omega) (by omega))) ?_)))
      refine asr J rfl (sq_nil ?_)
      have hgood2 : sBad l[m][k] = false := by rw [sBad_eq]; simp only [dec35n, dec43n, dec46n, dec63n] at *; simp_all
      exact ⟨⟨k + 1, by omega, fun i h hi => (by by_cases e : i = k; (subst e; exact hgood2); exact hok2 i h (by omega))⟩, by simp only; omega, Sub.slots ⟨J, J, J, J, trivial⟩⟩
     have g12_10' := g12_10
     try simp only [qq] at g12_10'
     refine sq_no rfl rfl (less_b g12_10) rfl rfl ?_
     refine sq_no rfl rfl (less_b g12_10) rfl rfl ?_
     refine sq_ev rfl (ev_pickF (v := .raw _) (less_b g12_10) J) ?_
     refine sq_nil ?_
     refine aw_false J ?_
     refine aw_skip (aw_region (mvr J rfl (sq_ev rfl (ev_add J J (wr (by omega) (by omega))) ?_)))
     refine asr J rfl (sq_nil ?_)
     have hgood2 : sBad l[m][k] = false := by rw [sBad_eq]; simp only [dec35n, dec43n, dec46n, dec63n] at *; simp_all
     exact ⟨⟨k + 1, by omega, fun i h hi => (by by_cases e : i = k; (subst e; exact hgood2); exact hok2 i h (by omega))⟩, by simp only; omega, Sub.slots ⟨J, J, J, J, trivial⟩⟩
    have g12_6' := g12_6
    try simp only [qq] at g12_6'
    refine sq_no rfl rfl (less_b g12_6) rfl rfl ?_
    refine sq_no rfl rfl (less_b g12_6) rfl rfl ?_
    refine sq_ev rfl (ev_pickF (v := .raw _) (less_b g12_6) J) ?_
    refine mvr J rfl (sq_no rfl rfl J rfl rfl (sq_no rfl rfl J rfl rfl (pf rfl J J (sq_nil ?_))))
    refine aw_false J ?_
    refine aw_skip (aw_region (mvr J rfl (sq_ev rfl (ev_add J J (wr (by omega) (by omega))) ?_)))
    refine asr J rfl (sq_nil ?_)
    have hgood2 : sBad l[m][k] = false := by rw [sBad_eq]; simp only [dec35n, dec43n, dec46n, dec63n] at *; simp_all
    exact ⟨⟨k + 1, by omega, fun i h hi => (by by_cases e : i = k; (subst e; exact hgood2); exact hok2 i h (by omega))⟩, by simp only; omega, Sub.slots ⟨J, J, J, J, trivial⟩⟩
   have g12_2' := g12_2
   try simp only [qq] at g12_2'
   refine sq_no rfl rfl (less_b g12_2) rfl rfl ?_
   refine sq_no rfl rfl (less_b g12_2) rfl rfl ?_
   refine sq_ev rfl (ev_pickF (v := .raw _) (less_b g12_2) J) ?_
   refine mvr J rfl (sq_no rfl rfl J rfl rfl ?_)
   refine sq_no rfl rfl J rfl rfl (pf rfl J J (mvr J rfl (sq_no rfl rfl J rfl rfl (sq_no rfl rfl J rfl rfl (pf rfl J J (sq_nil ?_))))))
   refine aw_false J ?_
   refine aw_skip (aw_region (mvr J rfl (sq_ev rfl (ev_add J J (wr (by omega) (by omega))) ?_)))
   refine asr J rfl (sq_nil ?_)
   have hgood2 : sBad l[m][k] = false := by rw [sBad_eq]; simp only [dec35n, dec43n, dec46n, dec63n] at *; simp_all
   exact ⟨⟨k + 1, by omega, fun i h hi => (by by_cases e : i = k; (subst e; exact hgood2); exact hok2 i h (by omega))⟩, by simp only; omega, Sub.slots ⟨J, J, J, J, trivial⟩⟩
  have c_33' := c_33
  try simp only [qq] at c_33'
  refine aw_exit (aw_region (mvr J rfl (sq_ev rfl (ev_add J J (wr (by omega) (by omega))) ?_)))
  refine asr J rfl (sq_nil ?_)
  have hgood : siRow s.wide l[m] = true := by rw [siRow_eq, decide_eq_true (by simpa using c_26'), List.any_eq_false.2 (fun q hq => by obtain ⟨i, hi, rfl⟩ := List.getElem_of_mem hq; simp [hok2 i hi (by omega)])]; rfl
  exact ⟨⟨m + 1, by omega, fun i h hi => (by by_cases e : i = m; (subst e; exact hgood); exact hok i h (by omega))⟩, by simp only; omega, Sub.slots ⟨J, J, J, trivial⟩⟩
 have c_16' := c_16
 try simp only [qq] at c_16'
 refine aw_exit (aw_seq (aw_region (asr J rfl (sq_nil (aw_ret ?_)))))
 exact retQ_pure (v := .raw _) rfl rfl (Less.eq (by rw [siOK_end hlen (fun i hi => hok i hi (by omega))]))
end Go.Proofs.YtmbknoaneglilaaGreatDoor
namespace Go.Proofs.YtmbknoaneglilaaGreatDoor
open Go Go.Ab Ni Ol
theorem en40 : Ent Tryz.prog 40 := Ent.of Tryz.func40 (by kernel_rfl) rfl
def cntR (ch : UInt8) (r : List UInt8) (k : Nat) : Int := ((r.take k).count ch : Int)
theorem cntR_succ {ch : UInt8} {r : List UInt8} {k : Nat} (h : k < r.length) : cntR ch r (k + 1) = cntR ch r k + (if r[k] = ch then 1 else 0) := by
  unfold cntR; rw [List.take_succ_eq_append_getElem h, List.count_append]
  by_cases e : r[k] = ch
  · rw [if_pos e, e]; simp
  · rw [if_neg e]; simp [List.count_singleton, e]
theorem cntR_bd (ch : UInt8) (r : List UInt8) (k : Nat) : 0 ≤ cntR ch r k ∧ cntR ch r k ≤ k := by
  unfold cntR
  have h1 := List.count_le_length (a := ch) (l := r.take k)
  rw [List.length_take] at h1
  omega
theorem cntR_all (ch : UInt8) (r : List UInt8) : cntR ch r r.length = (r.count ch : Int) := by unfold cntR; rw [List.take_length]
def mays (W : List Int) (k : Nat) : Int := (((W.take k).filter fun w => decide (w ≠ 1)).length : Int)
theorem mays_succ {W : List Int} {k : Nat} (h : k < W.length) : mays W (k + 1) = mays W k + (if W[k] ≠ 1 then 1 else 0) := by
  unfold mays; rw [List.take_succ_eq_append_getElem h, List.filter_append]
  by_cases e : W[k] = 1
  · rw [if_neg (by simp [e]), List.filter_cons_of_neg (by simp [e])]; simp
  · rw [if_pos e, List.filter_cons_of_pos (by simp [e])]; simp
theorem mays_bd (W : List Int) (k : Nat) : 0 ≤ mays W k ∧ mays W k ≤ k := by
  unfold mays
  have h := List.length_filter_le (fun w => decide (w ≠ 1)) (W.take k)
  rw [List.length_take] at h
  omega
def seenE (x : Sn) (sight : List (List UInt8)) : Int := if whoE x sight = 7 then 0 else if whoE x sight ≠ 0 ∨ (whoL x sight).length ≠ x.l.length then -1 else mays (whoL x sight) (whoL x sight).length
theorem rcount_pure (l : List (List UInt8)) (ch : UInt8) (hl : l.length ≤ 1000) (hr : ∀ r ∈ l, r.length ≤ 1000) : APure Tryz.prog 41 [strs l, C ch] (I (cnt ch l)) := by
  refine apure_of (rs := [.tmp 4]) Tryz.func41 rfl rfl (Nat.le_of_ble_eq_true rfl) (by simp [AV.pureL, AV.pureB, AV.pureE, pureE_map]) (by first | rfl | (simp [AV.pureL, AV.pureB, AV.pureE, pureE_map])) fun e0 he0 => ?_
  refine aw_seq (aw_region (asr J rfl (sq_nil (aw_seq (aw_region (asr J rfl ?_))))))
  refine sq_nil (aw_seq (aw_seq (aw_region (asr J rfl (sq_nil (aw_block ?_))))))
  refine aw_loopk (ι := { m : Nat // m ≤ l.length }) [0, 1] (fun g => [(5, I (cnt ch (l.take g.1))), (6, I g.1)]) (fun H g => H) (fun g => l.length - g.1) (⟨0, Nat.zero_le _⟩) ⟨J, J, J, J, trivial⟩ rfl ?_
  rintro ⟨m, hm⟩
  dsimp only [keepS, St.put, sget, slotsOf, nn1, nn2, nn3, nn4, nn5, nn6, Nat.reduceBEq, Nat.reduceAdd, nn7, nn8]
  have hb := cnt_bd ch (l.take m) 1000 (fun r h => hr r (List.mem_of_mem_take h))
  have hb2 : ((l.take m).length : Int) * (1000 : Nat) ≤ 1000000 := by rw [List.length_take]; omega
  refine aw_seq (aw_seq (aw_region (mvr J rfl (mvs rfl J (sq_ev rfl (ev_len_map sl24 J) ?_)))))
  refine sq_ev rfl (ev_lss J J) ?_
  refine sq_nil ?_
  refine aw_cond J (fun c_11 => ?_) (fun c_11 => ?_)
  · skip
    have c_11' := c_11
    try simp only [qq] at c_11'
    have hmL : m < l.length := by omega
    have hrl := hr _ (List.getElem_mem hmL)
    refine aw_skip (aw_seq (aw_block (aw_seq (aw_region (asr J rfl (sq_nil (aw_block ?_)))))))
    refine aw_loopk (ι := { k : Nat // k ≤ l[m].length }) [0, 1, 6] (fun g => [(5, I (cnt ch (l.take m) + cntR ch l[m] g.1)), (7, I g.1)]) (fun H g => H) (fun g => l[m].length - g.1) (⟨0, Nat.zero_le _⟩) ⟨(by exact less_int (by simp [cntR])), J, J, J, J, trivial⟩ rfl ?_
    rintro ⟨k, hk⟩
    dsimp only [keepS, St.put, sget, slotsOf, nn1, nn2, nn3, nn4, nn5, nn6, Nat.reduceBEq, Nat.reduceAdd, nn7, nn8]
    have hbr := cntR_bd ch l[m] k
    refine aw_seq (aw_seq (aw_region (mvr J rfl (mvs rfl J (mvr J rfl (sq_ev rfl (ev_index_map sl24 J J rfl (by omega)) ?_))))))
    refine sq_ev rfl (ev_load_i J ty9 rfl) ?_
    refine sq_ev rfl (ev_lenS Tryz.underlying9 J) ?_
    refine sq_ev rfl (ev_lss J J) ?_
    refine sq_nil ?_
    refine aw_cond J (fun c_20 => ?_) (fun c_20 => ?_)
    · skip
      have c_20' := c_20
      try simp only [qq] at c_20'
      have hkL : k < l[m].length := by omega
      refine aw_skip (aw_seq (aw_block (aw_seq (aw_region (mvs rfl J (mvr J rfl (sq_ev rfl (ev_index_map sl24 J J rfl (by omega)) ?_)))))))
      refine sq_ev rfl (ev_load_i J ty9 rfl) ?_
      refine mvr J rfl (sq_ev rfl (ev_idxS Tryz.underlying9 J J rfl (by omega)) ?_)
      refine mvr J rfl (sq_ev rfl (ev_eql J J) ?_)
      refine sq_nil ?_
      refine aw_cond J (fun c_30 => ?_) (fun c_30 => ?_)
      · skip
        have c_30' := c_30
        try simp only [qq] at c_30'
        have eR : cntR ch l[m] (k + 1) = cntR ch l[m] k + 1 := by rw [cntR_succ hkL, if_pos (UInt8.toNat_inj.1 (by omega))]
        refine aw_region (mvr J rfl (sq_ev rfl (ev_add J J (wr (by omega) (by omega))) ?_))
        refine asr J rfl (sq_nil (aw_region (mvr J rfl (sq_ev rfl (ev_add J J (wr (by omega) (by omega))) ?_))))
        refine asr J rfl (sq_nil ?_)
        exact ⟨⟨k + 1, by omega⟩, by simp only; omega, Sub.slots ⟨(by exact less_int (by rw [eR]; omega)), J, J, J, J, trivial⟩⟩
      · skip
        have c_30' := c_30
        try simp only [qq] at c_30'
        have eR : cntR ch l[m] (k + 1) = cntR ch l[m] k + 0 := by rw [cntR_succ hkL, if_neg (fun h => c_30' (by rw [h]))]
        refine aw_skip (aw_region (mvr J rfl (sq_ev rfl (ev_add J J (wr (by omega) (by omega))) ?_)))
        refine asr J rfl (sq_nil ?_)
        exact ⟨⟨k + 1, by omega⟩, by simp only; omega, Sub.slots ⟨(by exact less_int (by rw [eR]; omega)), J, J, J, J, trivial⟩⟩
    · skip
      have c_20' := c_20
      try simp only [qq] at c_20'
      obtain rfl : k = l[m].length := by omega
      have eC : cnt ch (l.take m) + cntR ch l[m] l[m].length = cnt ch (l.take (m + 1)) := by rw [cntR_all, cnt_take hmL]
      refine aw_exit (aw_region (mvr J rfl (sq_ev rfl (ev_add J J (wr (by omega) (by omega))) ?_)))
      refine asr J rfl (sq_nil ?_)
      exact ⟨⟨m + 1, by omega⟩, by simp only; omega, Sub.slots ⟨(by exact less_int eC), J, J, J, trivial⟩⟩
  · skip
    have c_11' := c_11
    try simp only [qq] at c_11'
    obtain rfl : m = l.length := by omega
    refine aw_exit (aw_seq (aw_region (mvr J rfl (asr J rfl (sq_nil (aw_ret ?_))))))
    exact retQ_pure (v := .raw _) rfl rfl (Less.eq (by rw [List.take_length]))
theorem rcell_pure (s : Sg) (l : List (List UInt8)) (k : Nat) (hs : stOK s = true) (hc : Clo s l) (hk : (k : Int) < s.wide * s.high) : APure Tryz.prog 42 [stA s, strs l, I k] (C (chAt s.wide l k)) := by
 refine apure_of (rs := [.tmp 6]) Tryz.func42 rfl rfl (Nat.le_of_ble_eq_true rfl) (by simp [AV.pureL, AV.pureB, AV.pureE, pureE_map]) (by first | rfl | (simp [AV.pureL, AV.pureB, AV.pureE, pureE_map])) fun e0 he0 => ?_
 have hsb := stOK_iff.1 hs
 have hwh := wh_bd hs
 obtain ⟨h1, h2, h3⟩ := chAt_get hs hc hk
 have hlr : l[k / s.wide.toNat].length = s.wide.toNat := hc.row _ (List.getElem_mem h1)
 refine aw_seq (aw_region (sq_box rfl J rfl (asr J rfl (sq_nil (aw_seq ?_)))))
 refine aw_draw 13 mo (by kernel_rfl) ?_
 refine dr_ev rfl (ev_mv (v := .sl _ _) J) ?_
 refine dr_ev rfl (ev_mv (v := .raw _) J) ?_
 refine dr_ev rfl (ev_fieldAddr fo23_0 J) ?_
 refine dr_ev rfl (ev_load J rfl ty3 rfl) ?_
 refine dr_ev rfl (ev_quo (q := ((k / s.wide.toNat : Nat) : Int)) J J (by omega) (quo_nat (by omega) (by omega))) ?_
 refine dr_ev rfl (ev_index_map (k := k / s.wide.toNat) sl24 J J rfl h1) ?_
 refine dr_ev rfl (ev_load_i J ty9 rfl) ?_
 refine dr_ev rfl (ev_mv (v := .raw _) J) ?_
 refine dr_ev rfl (ev_fieldAddr fo23_0 J) ?_
 refine dr_ev rfl (ev_load J rfl ty3 rfl) ?_
 refine dr_ev rfl (ev_less (ev_rem J J (by omega)) (less_int (rem_nat (by omega)))) ?_
 refine dr_ev rfl (ev_idxS Tryz.underlying9 J J rfl (by omega)) ?_
 refine dr_ev rfl (ev_as (v := .raw _) J) ?_
 refine dr_end (sq_nil (aw_ret ?_))
 exact retQ_pure (v := .raw _) rfl rfl (Less.eq (by rw [h3]))
theorem seenw_pure (x : Sn) (sight : List (List UInt8)) (hl : x.l.length ≤ 1000000) (hs : shp sight) : APure Tryz.prog 40 [stA x.s, figs x.l, rcA x.r, strs sight] (I (seenE x sight)) := by
 refine apure_of (rs := [.tmp 8]) Tryz.func40 rfl rfl (Nat.le_of_ble_eq_true rfl) (by simp [AV.pureL, AV.pureB, AV.pureE, pureE_map]) (by first | rfl | (simp [AV.pureL, AV.pureB, AV.pureE, pureE_map])) fun e0 he0 => ?_
 refine aw_seq (aw_region ?_)
 refine sq_box rfl J rfl (sq_box rfl J rfl (asr J rfl (sq_nil (aw_seq (aw_region (sq_ev rfl (ev_load_agg J rfl ty23 rfl) ?_))))))
 refine mvs rfl J (sq_ev rfl (ev_load_agg J rfl ty49 rfl) ?_)
 refine mvs rfl J (sq_ev rfl (ev_call en79 J (who_pure x sight hl hs) ⟨J, J, J, J, trivial⟩) ?_)
 refine sq_ev rfl (ev_mv (v := .tup _) J) ?_
 refine xtr rfl J rfl (xtr rfl J rfl (ass rfl J ?_))
 refine asr J rfl (sq_nil (aw_seq (aw_seq (aw_region (mvr J rfl (sq_ev rfl (ev_eql J J) ?_))))))
 refine sq_nil ?_
 refine aw_cond J (fun c_22 => ?_) (fun c_22 => ?_)
 ·
  have c_22' := c_22
  try simp only [qq] at c_22'
  refine aw_seq (aw_region (asr J rfl (sq_nil (aw_ret ?_))))
  exact retQ_pure (v := .raw _) rfl rfl (Less.eq (by unfold seenE; rw [if_pos c_22']))
 have c_22' := c_22
 try simp only [qq] at c_22'
 refine aw_skip (aw_seq (aw_seq (aw_region (mvr J rfl (sq_ev rfl (ev_neq J J) ?_)))))
 refine mvr J rfl ?_
 refine sq_split 25 J (fun g4_2 => ?_) (fun g4_2 => ?_)
 ·
  have g4_2' := g4_2
  try simp only [qq] at g4_2'
  refine sq_no rfl rfl (less_b g4_2) rfl rfl ?_
  refine sq_no rfl rfl (less_b g4_2) rfl rfl ?_
  refine sq_no rfl rfl (less_b g4_2) rfl rfl ?_
  refine sq_no rfl rfl (less_b g4_2) rfl rfl ?_
  refine sq_no rfl rfl (less_b g4_2) rfl rfl ?_
  refine sq_ev rfl (ev_pickT (v := .raw _) (less_b g4_2) J) ?_
  refine sq_nil ?_
  refine aw_true J ?_
  refine aw_seq (aw_region (asr J rfl (sq_nil (aw_ret ?_))))
  exact retQ_pure (v := .raw _) rfl rfl (Less.eq (by unfold seenE; rw [if_neg c_22', if_pos (.inl (by simpa using g4_2'))]))
 have g4_2' := g4_2
 try simp only [qq] at g4_2'
 refine sq_yes rfl rfl (less_b g4_2) rfl (ev_mv (v := .sl _ _) J) ?_
 refine sq_yes rfl rfl (less_b g4_2) rfl (ev_len_map sl117 J) ?_
 refine sq_yes rfl rfl (less_b g4_2) rfl (ev_mv (v := .sl _ _) J) ?_
 refine sq_yes rfl rfl (less_b g4_2) rfl (ev_len_map sl45 J) ?_
 refine sq_yes rfl rfl (less_b g4_2) rfl (ev_neq J J) ?_
 refine sq_ev rfl (ev_pickF (v := .raw _) (less_b g4_2) J) ?_
 refine sq_nil ?_
 refine aw_cond J (fun c_31 => ?_) (fun c_31 => ?_)
 ·
  have c_31' := c_31
  try simp only [qq] at c_31'
  refine aw_seq (aw_region (asr J rfl (sq_nil (aw_ret ?_))))
  exact retQ_pure (v := .raw _) rfl rfl (Less.eq (by unfold seenE; rw [if_neg c_22', if_pos (.inr (by omega))]))
 have c_31' := c_31
 try simp only [qq] at c_31'
 have hlw : (whoL x sight).length = x.l.length := by omega
 refine aw_skip (aw_seq (aw_region (asr J rfl ?_)))
 refine sq_nil (aw_seq (aw_seq (aw_region (asr J rfl (sq_nil (aw_block ?_))))))
 refine aw_loopk (ι := { k : Nat // k ≤ (whoL x sight).length }) [9] (fun g => [(11, I (mays (whoL x sight) g.1)), (12, I g.1)]) (fun H g => H) (fun g => (whoL x sight).length - g.1) (⟨0, Nat.zero_le _⟩) ⟨(by exact less_int (by simp [mays])), J, J, trivial⟩ rfl ?_
 rintro ⟨k, hk⟩
 dsimp only [keepS, St.put, sget, slotsOf, nn1, nn2, nn3, nn4, nn5, nn6, Nat.reduceBEq, Nat.reduceAdd, nn7, nn8]
 have hmb := mays_bd (whoL x sight) k
 refine aw_seq (aw_seq (aw_region (mvr J rfl (mvs rfl J (sq_ev rfl (ev_len_map sl117 J) ?_)))))
 refine sq_ev rfl (ev_lss J J) ?_
 refine sq_nil ?_
 refine aw_cond J (fun c_35 => ?_) (fun c_35 => ?_)
 ·
  have c_35' := c_35
  try simp only [qq] at c_35'
  have hkL : k < (whoL x sight).length := by omega
  refine aw_skip (aw_seq (aw_block (aw_seq (aw_region (mvs rfl J (mvr J rfl (sq_ev rfl (ev_index_map sl117 J J rfl (by omega)) ?_)))))))
  refine sq_ev rfl (ev_load_i J ty108 rfl) ?_
  refine sq_ev rfl (ev_neq J J) ?_
  refine sq_nil ?_
  refine aw_cond J (fun c_42 => ?_) (fun c_42 => ?_)
  ·
   have c_42' := c_42
   try simp only [qq] at c_42'
   have eM : mays (whoL x sight) k + 1 = mays (whoL x sight) (k + 1) := by rw [mays_succ hkL, if_pos (by simpa using c_42')]
   refine aw_region (mvr J rfl (sq_ev rfl (ev_add J J (wr (by omega) (by omega))) ?_))
   refine asr J rfl (sq_nil (aw_region (mvr J rfl (sq_ev rfl (ev_add J J (wr (by omega) (by omega))) ?_))))
   refine asr J rfl (sq_nil ?_)
   exact ⟨⟨k + 1, by omega⟩, by simp only; omega, Sub.slots ⟨(by exact less_int eM), J, J, trivial⟩⟩
  have c_42' := c_42
  try simp only [qq] at c_42'
  have eM : mays (whoL x sight) k = mays (whoL x sight) (k + 1) := by rw [mays_succ hkL, if_neg (by simpa using c_42')]; omega
  refine aw_skip (aw_region (mvr J rfl (sq_ev rfl (ev_add J J (wr (by omega) (by omega))) ?_)))
  refine asr J rfl (sq_nil ?_)
  exact ⟨⟨k + 1, by omega⟩, by simp only; omega, Sub.slots ⟨(by exact less_int eM), J, J, trivial⟩⟩
 have c_35' := c_35
 try simp only [qq] at c_35'
 obtain rfl : k = (whoL x sight).length := by omega
 refine aw_exit (aw_seq (aw_region (mvr J rfl (asr J rfl (sq_nil (aw_ret ?_))))))
 exact retQ_pure (v := .raw _) rfl rfl (Less.eq (by unfold seenE; rw [if_neg c_22', if_neg (by simp only [not_or, ne_eq, Decidable.not_not]; exact ⟨by simpa using g4_2', hlw⟩)]))
end Go.Proofs.YtmbknoaneglilaaGreatDoor
namespace Go.Proofs.YtmbknoaneglilaaGreatDoor
open Go Go.Ab Ni Ol
theorem en27 : Ent Tryz.prog 27 := Ent.of Tryz.func27 (by kernel_rfl) rfl
end Go.Proofs.YtmbknoaneglilaaGreatDoor
namespace Go.Proofs.YtmbknoaneglilaaGreatDoor
open Go Go.Ab Ni Ol
theorem clo_shp {s : Sg} {l : List (List UInt8)} (hs : stOK s = true) (h : Clo s l) : shp l := by
  have hb := stOK_iff.1 hs
  exact ⟨by rw [h.len]; omega, fun r hr => by rw [h.row r hr]; omega⟩
theorem askE_0 {x : Sn} {is : Bool} : askE x is = 0 ↔ snOK x = true ∧ is = true := by
  unfold askE
  by_cases h : (snOK x && is) = true
  · rw [if_pos h]; simp only [Bool.and_eq_true] at h; simp [h]
  · rw [if_neg h]; simp only [Bool.and_eq_true] at h
    exact ⟨(fun e => by cases e), fun e => absurd e h⟩
end Go.Proofs.YtmbknoaneglilaaGreatDoor
namespace Go.Proofs.YtmbknoaneglilaaGreatDoor
open Go Go.Ab Ni Ol
theorem en43 : Ent Tryz.prog 43 := Ent.of Tryz.func43 (by kernel_rfl) rfl
structure Rz where
  fig : Int
  p : Pc
  deriving DecidableEq
section
variable {r : Option Nat} {H : List AObj} {ρ : Operand → AV} {d : Option Tmp} {t : TypeId} {p : String} {af : Array Edge} {g : Option (Nat × Bool)} {x y : Operand} {yt : TypeId}
end
end Go.Proofs.YtmbknoaneglilaaGreatDoor
namespace Go.Proofs.YtmbknoaneglilaaGreatDoor
open Go Go.Ab Ni Ol
theorem gate_bool {a b : Bool} (h : (a && b) = true) : a = true ∧ b = true := by simpa using h
end Go.Proofs.YtmbknoaneglilaaGreatDoor
namespace Go.Proofs.YtmbknoaneglilaaGreatDoor
open Go Go.Ab Ni Ol
theorem ask_sn {x : Sn} {sight : List (List UInt8)} (hx : snOK x = true) (hs : siOK x.s sight = true) : askOK x sight = true := by unfold askOK; rw [hx, hs]; rfl
theorem seenE_len {x : Sn} {sight : List (List UInt8)} (hx : snOK x = true) (hs : siOK x.s sight = true) : seenE x sight = lenS (agrees x sight) := by
  have ha := ask_sn hx hs
  unfold seenE whoE whoL
  rw [if_pos ha]
  by_cases hn : 0 < (agrees x sight).length
  · have h2 : anyOK x sight = true := by unfold anyOK; simpa using hn
    have hl : (whoOf x sight).length = x.l.length := by unfold whoOf; simp
    rw [if_pos h2, if_pos (⟨ha, h2⟩ : askOK x sight = true ∧ anyOK x sight = true)]
    rw [if_neg (by decide), if_neg (by rw [hl]; simp)]
    unfold mays
    rw [List.take_length]
    exact who_len x sight
  · have h2 : anyOK x sight = false := by unfold anyOK; simpa using hn
    have he : agrees x sight = [] := List.length_eq_zero_iff.1 (by omega)
    rw [h2, he]; rfl
theorem seenC_eq {s : Sg} {l : List (List UInt8)} {k : Nat} {c : UInt8} (h1 : k / s.wide.toNat < l.length) : seenC s.wide l k c = l.set (k / s.wide.toNat) (l[k / s.wide.toNat].set (k % s.wide.toNat) c) := by unfold seenC; rw [getD_get h1]
theorem seenC_agree {s : Sg} {a l : List (List UInt8)} {k : Nat} {c : UInt8} (hs : stOK s = true) (ha : Clo s a) (hl : Clo s l) (hk : (k : Int) < s.wide * s.high) (h63 : chAt s.wide l k = 63) :
    agree a (seenC s.wide l k c) = (agree a l && !opp (chAt s.wide a k) c) := by
  obtain ⟨h1, h2, h3⟩ := chAt_get hs hl hk
  obtain ⟨g1, g2, g3⟩ := chAt_get hs ha hk
  rw [seenC_eq h1, agree_set (by rw [ha.len, hl.len]) (fun m p1 p2 => by rw [ha.row _ (List.getElem_mem p1), hl.row _ (List.getElem_mem p2)]) h1 h2 (by rw [← h3]; exact h63), getElem!_pos a[k / s.wide.toNat] (k % s.wide.toNat) g2, g3]
theorem seenC_agrees {x : Sn} {sight : List (List UInt8)} {k : Nat} {c : UInt8} (hx : snOK x = true) (hs : siOK x.s sight = true) (hk : (k : Int) < x.s.wide * x.s.high) (h63 : chAt x.s.wide sight k = 63) :
    agrees x (seenC x.s.wide sight k c) = restOf x.s.wide (agrees x sight) k c := by
  have hst := (sn_facts hx).2.1
  unfold agrees restOf
  rw [List.filter_filter]
  refine List.filter_congr fun t ht => ?_
  rw [seenC_agree hst (rdgs_clo hx ht) (sight_clo hst hs) hk h63, Bool.and_comm]
theorem siOK_iff {s : Sg} {l : List (List UInt8)} : siOK s l = true ↔ (l.length : Int) = s.high ∧ ∀ r ∈ l, (r.length : Int) = s.wide ∧ ∀ c ∈ r, c = 35 ∨ c = 43 ∨ c = 46 ∨ c = 63 := by
  unfold siOK siRow
  simp only [Bool.and_eq_true, decide_eq_true_eq, List.all_eq_true, Bool.not_eq_true', List.any_eq_false]
  constructor
  · rintro ⟨h1, h2⟩
    refine ⟨h1, fun r hr => ⟨(h2 r hr).1, fun c hc => ?_⟩⟩
    have := (h2 r hr).2 c hc
    by_cases a : c = 35
    · exact .inl a
    · by_cases b : c = 43
      · exact .inr (.inl b)
      · by_cases d : c = 46
        · exact .inr (.inr (.inl d))
        · by_cases e : c = 63
          · exact .inr (.inr (.inr e))
          · exact absurd ⟨a, b, d, e⟩ this
  · rintro ⟨h1, h2⟩
    refine ⟨h1, fun r hr => ⟨(h2 r hr).1, fun c hc h => ?_⟩⟩
    obtain ⟨a, b, d, e⟩ := h
    rcases (h2 r hr).2 c hc with h | h | h | h
    · exact a h
    · exact b h
    · exact d h
    · exact e h
theorem seenC_si {s : Sg} {l : List (List UInt8)} {k : Nat} {c : UInt8} (hs : stOK s = true) (h : siOK s l = true) (hk : (k : Int) < s.wide * s.high) (hc : c = 35 ∨ c = 46) : siOK s (seenC s.wide l k c) = true := by
  obtain ⟨h1, h2, h3⟩ := chAt_get hs (sight_clo hs h) hk
  rw [seenC_eq h1]
  rw [siOK_iff] at h ⊢
  obtain ⟨a, b⟩ := h
  refine ⟨by rw [List.length_set]; exact a, fun r hr => ?_⟩
  rcases List.mem_or_eq_of_mem_set hr with hr | rfl
  · exact b r hr
  · have hb := b _ (List.getElem_mem h1)
    refine ⟨by rw [List.length_set]; exact hb.1, fun d hd => ?_⟩
    rcases List.mem_or_eq_of_mem_set hd with hd | rfl
    · exact hb.2 d hd
    · rcases hc with h | h
      · exact .inl h
      · exact .inr (.inr (.inl h))
theorem si_shp {s : Sg} {l : List (List UInt8)} (hs : stOK s = true) (h : siOK s l = true) : shp l := clo_shp hs (sight_clo hs h)
theorem snw_pure {x : Sn} {sight : List (List UInt8)} (hl : x.l.length ≤ 1000000) (hx : snOK x = true) (hs : siOK x.s sight = true) : APure Tryz.prog 40 [stA x.s, figs x.l, rcA x.r, strs sight] (I (lenS (agrees x sight))) := by
  have := seenw_pure x sight hl (si_shp (sn_facts hx).2.1 hs)
  rwa [seenE_len hx hs] at this
theorem snc_pure {x : Sn} {sight : List (List UInt8)} {k : Nat} {c : UInt8} (hl : x.l.length ≤ 1000000) (hx : snOK x = true) (hs : siOK x.s sight = true) (hk : (k : Int) < x.s.wide * x.s.high) (h63 : chAt x.s.wide sight k = 63) (hc : c = 35 ∨ c = 46) :
    APure Tryz.prog 40 [stA x.s, figs x.l, rcA x.r, strs (seenC x.s.wide sight k c)] (I (lenS (restOf x.s.wide (agrees x sight) k c))) := by
  have := snw_pure hl hx (seenC_si (sn_facts hx).2.1 hs hk hc)
  rwa [seenC_agrees hx hs hk h63] at this
theorem worst_pure {x : Sn} {sight : List (List UInt8)} {k : Nat} (hl : x.l.length ≤ 1000000) (hx : snOK x = true) (hs : siOK x.s sight = true) (hk : (k : Int) < x.s.wide * x.s.high) (h63 : chAt x.s.wide sight k = 63) : APure Tryz.prog 43 [stA x.s, figs x.l, rcA x.r, strs sight, I (k : Int)] (I (mostAt x.s.wide (agrees x sight) k)) := by
  refine apure_of (rs := [.tmp 10]) Tryz.func43 rfl rfl (Nat.le_of_ble_eq_true rfl) (by simp [AV.pureL, AV.pureB, AV.pureE, pureE_map]) (by first | rfl | (simp [AV.pureL, AV.pureB, AV.pureE, pureE_map])) fun e0 he0 => ?_
  have hst := (sn_facts hx).2.1
  have hclo := sight_clo hst hs
  have n1 := lenS_nn (restOf x.s.wide (agrees x sight) k 35)
  have n2 := lenS_nn (restOf x.s.wide (agrees x sight) k 46)
  refine aw_seq (aw_region (sq_box rfl J rfl (sq_box rfl J rfl (asr J rfl (sq_nil (aw_seq ?_))))))
  refine aw_draw 18 mo (by kernel_rfl) ?_
  refine dr_ev rfl (ev_load_agg J rfl ty23 rfl) ?_
  refine dr_ev rfl (ev_mv (v := .sl _ _) J) ?_
  refine dr_ev rfl (ev_load_agg J rfl ty49 rfl) ?_
  refine dr_ev rfl (ev_load_agg J rfl ty23 rfl) ?_
  refine dr_ev rfl (ev_mv (v := .sl _ _) J) ?_
  refine dr_ev rfl (ev_mv (v := .raw _) J) ?_
  refine dr_ev rfl (ev_call en52 J (seen_pure x.s sight k 35 hst hclo hk) ⟨J, J, J, J, trivial⟩) ?_
  refine dr_ev rfl (ev_call en40 J (snc_pure hl hx hs hk h63 (.inl rfl)) ⟨J, J, J, J, trivial⟩) ?_
  refine dr_ev rfl (ev_load_agg J rfl ty23 rfl) ?_
  refine dr_ev rfl (ev_mv (v := .sl _ _) J) ?_
  refine dr_ev rfl (ev_load_agg J rfl ty49 rfl) ?_
  refine dr_ev rfl (ev_load_agg J rfl ty23 rfl) ?_
  refine dr_ev rfl (ev_mv (v := .sl _ _) J) ?_
  refine dr_ev rfl (ev_mv (v := .raw _) J) ?_
  refine dr_ev rfl (ev_call en52 J (seen_pure x.s sight k 46 hst hclo hk) ⟨J, J, J, J, trivial⟩) ?_
  refine dr_ev rfl (ev_call en40 J (snc_pure hl hx hs hk h63 (.inr rfl)) ⟨J, J, J, J, trivial⟩) ?_
  refine dr_ev rfl (ev_as (v := .raw _) J) ?_
  refine dr_ev rfl (ev_as (v := .raw _) J) ?_
  refine dr_end (sq_nil (aw_seq (aw_seq (aw_region (mvr J rfl (sq_ev rfl (ev_lss J J) ?_))))))
  refine mvr J rfl ?_
  refine sq_split 31 J (fun g2_2 => ?_) (fun g2_2 => ?_)
  · skip
    have g2_2' := g2_2
    try simp only [qq] at g2_2'
    exfalso; omega
  · skip
    have g2_2' := g2_2
    try simp only [qq] at g2_2'
    refine sq_yes rfl rfl (less_b g2_2) rfl (ev_mv (v := .raw _) J) ?_
    refine sq_yes rfl rfl (less_b g2_2) rfl (ev_lss J J) ?_
    refine sq_ev rfl (ev_pickF (v := .raw _) (less_b g2_2) J) ?_
    refine sq_nil ?_
    refine aw_cond J (fun c_34 => ?_) (fun c_34 => ?_)
    · skip
      have c_34' := c_34
      try simp only [qq] at c_34'
      exfalso; omega
    · skip
      have c_34' := c_34
      try simp only [qq] at c_34'
      refine aw_skip (aw_seq (aw_region (mvr J rfl (mvr J rfl (sq_ev rfl (ev_max2 J J) ?_)))))
      refine asr J rfl (sq_nil (aw_ret ?_))
      exact retQ_pure (v := .raw _) rfl rfl (Less.eq (by rw [mostAt_max]))
theorem looks_gate (x : Sn) (sight : List (List UInt8)) (o : Int) (hg : (fewB x.l && (shortB sight && (decide (askE x (stOK x.s && siOK x.s sight) = 0) && decide (0 ≤ o ∧ o < x.s.wide * x.s.high)))) = false) : APure Tryz.prog 6 [stA x.s, figs x.l, rcA x.r, strs sight, I o] (B true) := by
 refine apure_of (rs := [.tmp 10]) Tryz.func6 rfl rfl (Nat.le_of_ble_eq_true rfl) (by simp [AV.pureL, AV.pureB, AV.pureE, pureE_map]) (by first | rfl | (simp [AV.pureL, AV.pureB, AV.pureE, pureE_map])) fun e0 he0 => ?_
 refine aw_seq (aw_region (sq_box rfl J rfl (sq_box rfl J rfl (asr J rfl (sq_nil (aw_seq (aw_seq ?_)))))))
 refine aw_draw 35 mo (by kernel_rfl) ?_
 refine dr_ev rfl (ev_mv (v := .sl _ _) J) ?_
 refine dr_ev rfl (ev_call en34 J (few_pure x.l) ⟨J, trivial⟩) ?_
 refine dr_ev rfl (ev_not J) ?_
 refine dr_ev rfl (ev_mv (v := .raw _) J) ?_
 refine dr_split 19 J (fun g1_3 => ?_) (fun g1_3 => ?_)
 ·
  have g1_3' := g1_3
  try simp only [qq] at g1_3'
  refine dr_no rfl rfl (less_b g1_3) rfl rfl ?_
  refine dr_no rfl rfl (less_b g1_3) rfl rfl ?_
  refine dr_no rfl rfl (less_b g1_3) rfl rfl ?_
  refine dr_ev rfl (ev_pickT (v := .raw _) (less_b g1_3) J) ?_
  refine dr_ev rfl (ev_mv (v := .raw _) J) ?_
  refine dr_no rfl rfl J rfl rfl (dr_no rfl rfl J rfl rfl (dr_no rfl rfl J rfl rfl (dr_no rfl rfl J rfl rfl (dr_no rfl rfl J rfl rfl ?_))))
  refine dr_no rfl rfl J rfl rfl (dr_no rfl rfl J rfl rfl (dr_no rfl rfl J rfl rfl (dr_no rfl rfl J rfl rfl (dr_no rfl rfl J rfl rfl (dr_no rfl rfl J rfl rfl (dr_no rfl rfl J rfl rfl ?_))))))
  refine dr_ev rfl (ev_pickT (v := .raw _) J J) ?_
  refine dr_ev rfl (ev_mv (v := .raw _) J) ?_
  refine dr_no rfl rfl J rfl rfl (dr_no rfl rfl J rfl rfl ?_)
  refine dr_ev rfl (ev_pickT (v := .raw _) J J) ?_
  refine dr_ev rfl (ev_mv (v := .raw _) J) ?_
  refine dr_no rfl rfl J rfl rfl (dr_no rfl rfl J rfl rfl (dr_no rfl rfl J rfl rfl (dr_no rfl rfl J rfl rfl (dr_no rfl rfl J rfl rfl (dr_no rfl rfl J rfl rfl (dr_no rfl rfl J rfl rfl ?_))))))
  refine dr_ev rfl (ev_pickT (v := .raw _) J J) ?_
  refine dr_end (sq_nil ?_)
  refine aw_true J ?_
  refine aw_seq (aw_region (sq_ev rfl (ev_call en27 J (known_pure) trivial) ?_))
  refine asr J rfl (sq_nil (aw_ret ?_))
  exact retQ_pure (v := .raw _) rfl rfl J
 have g1_3' := g1_3
 try simp only [qq] at g1_3'
 refine dr_yes rfl rfl (less_b g1_3) rfl (ev_mv (v := .sl _ _) J) ?_
 refine dr_yes rfl rfl (less_b g1_3) rfl (ev_call en23 J (short_pure sight) ⟨J, trivial⟩) ?_
 refine dr_yes rfl rfl (less_b g1_3) rfl (ev_not J) ?_
 refine dr_ev rfl (ev_pickF (v := .raw _) (less_b g1_3) J) ?_
 refine dr_ev rfl (ev_mv (v := .raw _) J) ?_
 refine dr_split 24 J (fun g1_8 => ?_) (fun g1_8 => ?_)
 ·
  have g1_8' := g1_8
  try simp only [qq] at g1_8'
  refine dr_no rfl rfl (less_b g1_8) rfl rfl ?_
  refine dr_no rfl rfl (less_b g1_8) rfl rfl ?_
  refine dr_no rfl rfl (less_b g1_8) rfl rfl ?_
  refine dr_no rfl rfl (less_b g1_8) rfl rfl ?_
  refine dr_no rfl rfl (less_b g1_8) rfl rfl ?_
  refine dr_no rfl rfl (less_b g1_8) rfl rfl ?_
  refine dr_no rfl rfl J rfl rfl (dr_no rfl rfl J rfl rfl (dr_no rfl rfl J rfl rfl (dr_no rfl rfl (less_b g1_8) rfl rfl ?_)))
  refine dr_no rfl rfl (less_b g1_8) rfl rfl ?_
  refine dr_no rfl rfl (less_b g1_8) rfl rfl ?_
  refine dr_ev rfl (ev_pickT (v := .raw _) (less_b g1_8) J) ?_
  refine dr_ev rfl (ev_mv (v := .raw _) J) ?_
  refine dr_no rfl rfl J rfl rfl (dr_no rfl rfl J rfl rfl ?_)
  refine dr_ev rfl (ev_pickT (v := .raw _) J J) ?_
  refine dr_ev rfl (ev_mv (v := .raw _) J) ?_
  refine dr_no rfl rfl J rfl rfl (dr_no rfl rfl J rfl rfl (dr_no rfl rfl J rfl rfl (dr_no rfl rfl J rfl rfl (dr_no rfl rfl J rfl rfl (dr_no rfl rfl J rfl rfl (dr_no rfl rfl J rfl rfl ?_))))))
  refine dr_ev rfl (ev_pickT (v := .raw _) J J) ?_
  refine dr_end (sq_nil ?_)
  refine aw_true J ?_
  refine aw_seq (aw_region (sq_ev rfl (ev_call en27 J (known_pure) trivial) ?_))
  refine asr J rfl (sq_nil (aw_ret ?_))
  exact retQ_pure (v := .raw _) rfl rfl J
 have g1_8' := g1_8
 try simp only [qq] at g1_8'
 have hsh := shortB_shp (by simpa using g1_8)
 refine dr_yes rfl rfl (less_b g1_8) rfl (ev_load_agg J rfl ty23 rfl) ?_
 refine dr_yes rfl rfl (less_b g1_8) rfl (ev_mv (v := .sl _ _) J) ?_
 refine dr_yes rfl rfl (less_b g1_8) rfl (ev_load_agg J rfl ty49 rfl) ?_
 refine dr_yes rfl rfl (less_b g1_8) rfl (ev_load_agg J rfl ty23 rfl) ?_
 refine dr_yes rfl rfl (less_b g1_8) rfl (ev_call en24 J (rstage_pure x.s) ⟨J, trivial⟩) ?_
 refine dr_yes rfl rfl (less_b g1_8) rfl (ev_mv (v := .raw _) J) ?_
 refine dr_split 30 J (fun g1_14 => ?_) (fun g1_14 => ?_)
 ·
  have g1_14' := g1_14
  try simp only [qq] at g1_14'
  refine dr_yes rfl rfl (less_b g1_14) rfl (ev_load_agg J rfl ty23 rfl) ?_
  refine dr_yes rfl rfl (less_b g1_14) rfl (ev_mv (v := .sl _ _) J) ?_
  refine dr_yes rfl rfl (less_b g1_14) rfl (ev_call en37 J (rsight_pure x.s sight hsh) ⟨J, J, trivial⟩) ?_
  refine dr_yes rfl rfl (less_b g1_8) rfl (ev_pickT (v := .raw _) (less_b g1_14) J) ?_
  refine dr_yes rfl rfl (less_b g1_8) rfl (ev_call en36 J (asked_pure x _) ⟨J, J, J, J, trivial⟩) ?_
  refine dr_yes rfl rfl (less_b g1_8) rfl (ev_neq J J) ?_
  refine dr_ev rfl (ev_pickF (v := .raw _) (less_b g1_8) J) ?_
  refine dr_ev rfl (ev_mv (v := .raw _) J) ?_
  refine dr_split 38 J (fun g1_22 => ?_) (fun g1_22 => ?_)
  ·
   have g1_22' := g1_22
   try simp only [qq] at g1_22'
   refine dr_no rfl rfl (less_b g1_22) rfl rfl ?_
   refine dr_no rfl rfl (less_b g1_22) rfl rfl ?_
   refine dr_ev rfl (ev_pickT (v := .raw _) (less_b g1_22) J) ?_
   refine dr_ev rfl (ev_mv (v := .raw _) J) ?_
   refine dr_no rfl rfl J rfl rfl (dr_no rfl rfl J rfl rfl (dr_no rfl rfl J rfl rfl (dr_no rfl rfl J rfl rfl (dr_no rfl rfl J rfl rfl (dr_no rfl rfl J rfl rfl (dr_no rfl rfl J rfl rfl ?_))))))
   refine dr_ev rfl (ev_pickT (v := .raw _) J J) ?_
   refine dr_end (sq_nil ?_)
   refine aw_true J ?_
   refine aw_seq (aw_region (sq_ev rfl (ev_call en27 J (known_pure) trivial) ?_))
   refine asr J rfl (sq_nil (aw_ret ?_))
   exact retQ_pure (v := .raw _) rfl rfl J
  have g1_22' := g1_22
  try simp only [qq] at g1_22'
  have hq := askE_0.1 (by simpa using g1_22)
  have hwh := wh_bd (sn_facts hq.1).2.1
  refine dr_yes rfl rfl (less_b g1_22) rfl (ev_mv (v := .raw _) J) ?_
  refine dr_yes rfl rfl (less_b g1_22) rfl (ev_lss J J) ?_
  refine dr_ev rfl (ev_pickF (v := .raw _) (less_b g1_22) J) ?_
  refine dr_ev rfl (ev_mv (v := .raw _) J) ?_
  refine dr_split 42 J (fun g1_26 => ?_) (fun g1_26 => ?_)
  ·
   have g1_26' := g1_26
   try simp only [qq] at g1_26'
   refine dr_no rfl rfl (less_b g1_26) rfl rfl ?_
   refine dr_no rfl rfl (less_b g1_26) rfl rfl ?_
   refine dr_no rfl rfl (less_b g1_26) rfl rfl ?_
   refine dr_no rfl rfl (less_b g1_26) rfl rfl ?_
   refine dr_no rfl rfl (less_b g1_26) rfl rfl ?_
   refine dr_no rfl rfl (less_b g1_26) rfl rfl ?_
   refine dr_no rfl rfl (less_b g1_26) rfl rfl ?_
   refine dr_ev rfl (ev_pickT (v := .raw _) (less_b g1_26) J) ?_
   refine dr_end (sq_nil ?_)
   refine aw_true J ?_
   refine aw_seq (aw_region (sq_ev rfl (ev_call en27 J (known_pure) trivial) ?_))
   refine asr J rfl (sq_nil (aw_ret ?_))
   exact retQ_pure (v := .raw _) rfl rfl J
  have g1_26' := g1_26
  try simp only [qq] at g1_26'
  refine dr_yes rfl rfl (less_b g1_26) rfl (ev_mv (v := .raw _) J) ?_
  refine dr_yes rfl rfl (less_b g1_26) rfl (ev_fieldAddr fo23_0 J) ?_
  refine dr_yes rfl rfl (less_b g1_26) rfl (ev_load J rfl ty3 rfl) ?_
  refine dr_yes rfl rfl (less_b g1_26) rfl (ev_fieldAddr fo23_1 J) ?_
  refine dr_yes rfl rfl (less_b g1_26) rfl (ev_load J rfl ty3 rfl) ?_
  refine dr_yes rfl rfl (less_b g1_26) rfl (ev_mul J J (wr (by omega) (by omega))) ?_
  refine dr_yes rfl rfl (less_b g1_26) rfl (ev_geq J J) ?_
  refine dr_ev rfl (ev_pickF (v := .raw _) (less_b g1_26) J) ?_
  refine dr_end (sq_nil ?_)
  refine aw_cond J (fun c_50 => ?_) (fun c_50 => ?_)
  ·
   have c_50' := c_50
   try simp only [qq] at c_50'
   refine aw_seq (aw_region (sq_ev rfl (ev_call en27 J (known_pure) trivial) ?_))
   refine asr J rfl (sq_nil (aw_ret ?_))
   exact retQ_pure (v := .raw _) rfl rfl J
  have c_50' := c_50
  try simp only [qq] at c_50'
  first | (exfalso; simp_all; done) | (exfalso; simp_all; omega)
 have g1_14' := g1_14
 try simp only [qq] at g1_14'
 refine dr_no rfl rfl (less_b g1_14) rfl rfl ?_
 refine dr_no rfl rfl (less_b g1_14) rfl rfl ?_
 refine dr_no rfl rfl (less_b g1_14) rfl rfl ?_
 refine dr_yes rfl rfl (less_b g1_8) rfl (ev_pickF (v := .raw _) (less_b g1_14) J) ?_
 refine dr_yes rfl rfl (less_b g1_8) rfl (ev_call en36 J (asked_pure x _) ⟨J, J, J, J, trivial⟩) ?_
 refine dr_yes rfl rfl (less_b g1_8) rfl (ev_neq J J) ?_
 refine dr_ev rfl (ev_pickF (v := .raw _) (less_b g1_8) J) ?_
 refine dr_ev rfl (ev_mv (v := .raw _) J) ?_
 refine dr_split 38 J (fun g1_22 => ?_) (fun g1_22 => ?_)
 ·
  have g1_22' := g1_22
  try simp only [qq] at g1_22'
  refine dr_no rfl rfl (less_b g1_22) rfl rfl ?_
  refine dr_no rfl rfl (less_b g1_22) rfl rfl ?_
  refine dr_ev rfl (ev_pickT (v := .raw _) (less_b g1_22) J) ?_
  refine dr_ev rfl (ev_mv (v := .raw _) J) ?_
  refine dr_no rfl rfl J rfl rfl (dr_no rfl rfl J rfl rfl (dr_no rfl rfl J rfl rfl (dr_no rfl rfl J rfl rfl (dr_no rfl rfl J rfl rfl (dr_no rfl rfl J rfl rfl (dr_no rfl rfl J rfl rfl ?_))))))
  refine dr_ev rfl (ev_pickT (v := .raw _) J J) ?_
  refine dr_end (sq_nil ?_)
  refine aw_true J ?_
  refine aw_seq (aw_region (sq_ev rfl (ev_call en27 J (known_pure) trivial) ?_))
  refine asr J rfl (sq_nil (aw_ret ?_))
  exact retQ_pure (v := .raw _) rfl rfl J
 have g1_22' := g1_22
 try simp only [qq] at g1_22'
 have hq := askE_0.1 (by simpa using g1_22)
 have hwh := wh_bd (sn_facts hq.1).2.1
 refine dr_yes rfl rfl (less_b g1_22) rfl (ev_mv (v := .raw _) J) ?_
 refine dr_yes rfl rfl (less_b g1_22) rfl (ev_lss J J) ?_
 refine dr_ev rfl (ev_pickF (v := .raw _) (less_b g1_22) J) ?_
 refine dr_ev rfl (ev_mv (v := .raw _) J) ?_
 refine dr_split 42 J (fun g1_26 => ?_) (fun g1_26 => ?_)
 ·
  have g1_26' := g1_26
  try simp only [qq] at g1_26'
  refine dr_no rfl rfl (less_b g1_26) rfl rfl ?_
  refine dr_no rfl rfl (less_b g1_26) rfl rfl ?_
  refine dr_no rfl rfl (less_b g1_26) rfl rfl ?_
  refine dr_no rfl rfl (less_b g1_26) rfl rfl ?_
  refine dr_no rfl rfl (less_b g1_26) rfl rfl ?_
  refine dr_no rfl rfl (less_b g1_26) rfl rfl ?_
  refine dr_no rfl rfl (less_b g1_26) rfl rfl ?_
  refine dr_ev rfl (ev_pickT (v := .raw _) (less_b g1_26) J) ?_
  refine dr_end (sq_nil ?_)
  refine aw_true J ?_
  refine aw_seq (aw_region (sq_ev rfl (ev_call en27 J (known_pure) trivial) ?_))
  refine asr J rfl (sq_nil (aw_ret ?_))
  exact retQ_pure (v := .raw _) rfl rfl J
 have g1_26' := g1_26
 try simp only [qq] at g1_26'
 refine dr_yes rfl rfl (less_b g1_26) rfl (ev_mv (v := .raw _) J) ?_
 refine dr_yes rfl rfl (less_b g1_26) rfl (ev_fieldAddr fo23_0 J) ?_
 refine dr_yes rfl rfl (less_b g1_26) rfl (ev_load J rfl ty3 rfl) ?_
 refine dr_yes rfl rfl (less_b g1_26) rfl (ev_fieldAddr fo23_1 J) ?_
 refine dr_yes rfl rfl (less_b g1_26) rfl (ev_load J rfl ty3 rfl) ?_
 refine dr_yes rfl rfl (less_b g1_26) rfl (ev_mul J J (wr (by omega) (by omega))) ?_
 refine dr_yes rfl rfl (less_b g1_26) rfl (ev_geq J J) ?_
 refine dr_ev rfl (ev_pickF (v := .raw _) (less_b g1_26) J) ?_
 refine dr_end (sq_nil ?_)
 refine aw_cond J (fun c_50 => ?_) (fun c_50 => ?_)
 ·
  have c_50' := c_50
  try simp only [qq] at c_50'
  refine aw_seq (aw_region (sq_ev rfl (ev_call en27 J (known_pure) trivial) ?_))
  refine asr J rfl (sq_nil (aw_ret ?_))
  exact retQ_pure (v := .raw _) rfl rfl J
 have c_50' := c_50
 try simp only [qq] at c_50'
 first | (exfalso; simp_all; done) | (exfalso; simp_all; omega)
set_option maxRecDepth 20000 in
theorem looks_7 {x : Sn} {sight : List (List UInt8)} {o : Nat} (ho : (o : Int) < x.s.wide * x.s.high) (hwh : 1 ≤ x.s.wide * x.s.high ∧ x.s.wide * x.s.high ≤ 256)
    (k34 : APure Tryz.prog 34 [figs x.l] (B true)) (k23 : APure Tryz.prog 23 [strs sight] (B true)) (k24 : APure Tryz.prog 24 [stA x.s] (B true)) (k37 : APure Tryz.prog 37 [stA x.s, strs sight] (B true)) (k36 : APure Tryz.prog 36 [stA x.s, figs x.l, rcA x.r, B true] (I 0)) (k35 : APure Tryz.prog 35 [stA x.s, figs x.l, rcA x.r, strs sight] (.tup [I 0, I 0, I 7])) (k40 : APure Tryz.prog 40 [stA x.s, figs x.l, rcA x.r, strs sight] (I 0)) : APure Tryz.prog 6 [stA x.s, figs x.l, rcA x.r, strs sight, I (o : Int)] (B true) := by
  refine apure_of (rs := [.tmp 10]) Tryz.func6 rfl rfl (Nat.le_of_ble_eq_true rfl) (by simp [AV.pureL, AV.pureB, AV.pureE, pureE_map]) (by first | rfl | (simp [AV.pureL, AV.pureB, AV.pureE, pureE_map])) fun e0 he0 => ?_
  refine aw_seq (aw_region (sq_box rfl J rfl (sq_box rfl J rfl (asr J rfl (sq_nil (aw_seq (aw_seq ?_)))))))
  refine aw_draw 35 mo (by kernel_rfl) ?_
  refine dr_ev rfl (ev_mv (v := .sl _ _) J) ?_
  refine dr_ev rfl (ev_call en34 J (k34) ⟨J, trivial⟩) ?_
  refine dr_ev rfl (ev_not J) ?_
  refine dr_ev rfl (ev_mv (v := .raw _) J) ?_
  refine dr_yes rfl rfl J rfl (ev_mv (v := .sl _ _) J) ?_
  refine dr_yes rfl rfl J rfl (ev_call en23 J (k23) ⟨J, trivial⟩) ?_
  refine dr_yes rfl rfl J rfl (ev_not J) ?_
  refine dr_ev rfl (ev_pickF (v := .raw _) J J) ?_
  refine dr_ev rfl (ev_mv (v := .raw _) J) ?_
  refine dr_yes rfl rfl J rfl (ev_load_agg J rfl ty23 rfl) ?_
  refine dr_yes rfl rfl J rfl (ev_mv (v := .sl _ _) J) ?_
  refine dr_yes rfl rfl J rfl (ev_load_agg J rfl ty49 rfl) ?_
  refine dr_yes rfl rfl J rfl (ev_load_agg J rfl ty23 rfl) ?_
  refine dr_yes rfl rfl J rfl (ev_call en24 J (k24) ⟨J, trivial⟩) ?_
  refine dr_yes rfl rfl J rfl (ev_mv (v := .raw _) J) ?_
  refine dr_yes rfl rfl J rfl (ev_load_agg J rfl ty23 rfl) ?_
  refine dr_yes rfl rfl J rfl (ev_mv (v := .sl _ _) J) ?_
  refine dr_yes rfl rfl J rfl (ev_call en37 J (k37) ⟨J, J, trivial⟩) ?_
  refine dr_yes rfl rfl J rfl (ev_pickT (v := .raw _) J J) ?_
  refine dr_yes rfl rfl J rfl (ev_call en36 J (k36) ⟨J, J, J, J, trivial⟩) ?_
  refine dr_yes rfl rfl J rfl (ev_neq J J) ?_
  refine dr_ev rfl (ev_pickF (v := .raw _) J J) ?_
  refine dr_ev rfl (ev_mv (v := .raw _) J) ?_
  refine dr_yes rfl rfl J rfl (ev_mv (v := .raw _) J) ?_
  refine dr_yes rfl rfl J rfl (ev_lss J J) ?_
  refine dr_ev rfl (ev_pickF (v := .raw _) J J) ?_
  refine dr_ev rfl (ev_mv (v := .raw _) J) ?_
  refine dr_split 42 J (fun g1_26 => ?_) (fun g1_26 => ?_)
  · skip
    have g1_26' := g1_26
    try simp only [qq] at g1_26'
    first | exact absurd g1_26 (by decide) | (exfalso; simp at g1_26; done) | (exfalso; simp at g1_26; omega) | (exfalso; simp_all; done) | (exfalso; simp_all; omega)
  · skip
    have g1_26' := g1_26
    try simp only [qq] at g1_26'
    refine dr_yes rfl rfl (less_b g1_26) rfl (ev_mv (v := .raw _) J) ?_
    refine dr_yes rfl rfl (less_b g1_26) rfl (ev_fieldAddr fo23_0 J) ?_
    refine dr_yes rfl rfl (less_b g1_26) rfl (ev_load J rfl ty3 rfl) ?_
    refine dr_yes rfl rfl (less_b g1_26) rfl (ev_fieldAddr fo23_1 J) ?_
    refine dr_yes rfl rfl (less_b g1_26) rfl (ev_load J rfl ty3 rfl) ?_
    refine dr_yes rfl rfl (less_b g1_26) rfl (ev_mul J J (wr (by omega) (by omega))) ?_
    refine dr_yes rfl rfl (less_b g1_26) rfl (ev_geq J J) ?_
    refine dr_ev rfl (ev_pickF (v := .raw _) (less_b g1_26) J) ?_
    refine dr_end (sq_nil ?_)
    refine aw_cond J (fun c_50 => ?_) (fun c_50 => ?_)
    · skip
      have c_50' := c_50
      try simp only [qq] at c_50'
      first | exact absurd c_50 (by decide) | (exfalso; simp at c_50; done) | (exfalso; simp at c_50; omega) | (exfalso; simp_all; done) | (exfalso; simp_all; omega)
    · skip
      have c_50' := c_50
      try simp only [qq] at c_50'
      refine aw_skip (aw_seq (aw_region (sq_ev rfl (ev_load_agg J rfl ty23 rfl) ?_)))
      refine mvs rfl J (sq_ev rfl (ev_load_agg J rfl ty49 rfl) ?_)
      refine mvs rfl J (sq_ev rfl (ev_call en35 J (k35) ⟨J, J, J, J, trivial⟩) ?_)
      refine sq_ev rfl (ev_mv (v := .tup _) J) ?_
      refine xtr rfl J rfl (xtr rfl J rfl (xtr rfl J rfl ?_))
      refine asr J rfl (asr J rfl (asr J rfl (sq_nil (aw_seq (aw_region (sq_ev rfl (ev_load_agg J rfl ty23 rfl) ?_))))))
      refine mvs rfl J (sq_ev rfl (ev_load_agg J rfl ty49 rfl) ?_)
      refine mvs rfl J (sq_ev rfl (ev_call en40 J (k40) ⟨J, J, J, J, trivial⟩) ?_)
      refine asr J rfl (sq_nil (aw_seq (aw_seq (aw_region (mvr J rfl (sq_ev rfl (ev_neq J J) ?_))))))
      refine sq_nil ?_
      refine aw_cond J (fun c_67 => ?_) (fun c_67 => ?_)
      · skip
        have c_67' := c_67
        try simp only [qq] at c_67'
        refine aw_seq (aw_region (mvr J rfl (sq_ev rfl (ev_eql J J) ?_)))
        refine mvr J rfl (ymr rfl rfl J rfl J (sq_yes rfl rfl J rfl (ev_eql J J) ?_))
        refine sq_ev rfl (ev_pickT (v := .raw _) J J) ?_
        refine mvr J rfl (sq_no rfl rfl J rfl rfl (sq_no rfl rfl J rfl rfl (sq_no rfl rfl J rfl rfl (sq_no rfl rfl J rfl rfl (sq_no rfl rfl J rfl rfl ?_)))))
        refine sq_no rfl rfl J rfl rfl (sq_no rfl rfl J rfl rfl (sq_no rfl rfl J rfl rfl (sq_no rfl rfl J rfl rfl (sq_no rfl rfl J rfl rfl (sq_no rfl rfl J rfl rfl (sq_ev rfl (ev_pickT (v := .raw _) J J) ?_))))))
        refine mvr J rfl (sq_yes rfl rfl J rfl (ev_call en27 J (known_pure) trivial) ?_)
        refine sq_ev rfl (ev_pickT (v := .raw _) J J) ?_
        refine asr J rfl (sq_nil (aw_ret ?_))
        exact retQ_pure (v := .raw _) rfl rfl J
      · skip
        have c_67' := c_67
        try simp only [qq] at c_67'
        first | exact absurd c_67 (by decide) | (exfalso; simp at c_67; done) | (exfalso; simp at c_67; omega) | (exfalso; simp_all; done) | (exfalso; simp_all; omega)
set_option maxRecDepth 20000 in
theorem looks_5 {x : Sn} {sight : List (List UInt8)} {o : Nat} {now : Int} (ho : (o : Int) < x.s.wide * x.s.high) (hwh : 1 ≤ x.s.wide * x.s.high ∧ x.s.wide * x.s.high ≤ 256)
    (k34 : APure Tryz.prog 34 [figs x.l] (B true)) (k23 : APure Tryz.prog 23 [strs sight] (B true)) (k24 : APure Tryz.prog 24 [stA x.s] (B true)) (k37 : APure Tryz.prog 37 [stA x.s, strs sight] (B true)) (k36 : APure Tryz.prog 36 [stA x.s, figs x.l, rcA x.r, B true] (I 0)) (k35 : APure Tryz.prog 35 [stA x.s, figs x.l, rcA x.r, strs sight] (.tup [I 0, I 0, I 5])) (k40 : APure Tryz.prog 40 [stA x.s, figs x.l, rcA x.r, strs sight] (I now)) (h0 : 0 < now) (k41 : APure Tryz.prog 41 [strs sight, C 63] (I 0)) : APure Tryz.prog 6 [stA x.s, figs x.l, rcA x.r, strs sight, I (o : Int)] (B true) := by
  refine apure_of (rs := [.tmp 10]) Tryz.func6 rfl rfl (Nat.le_of_ble_eq_true rfl) (by simp [AV.pureL, AV.pureB, AV.pureE, pureE_map]) (by first | rfl | (simp [AV.pureL, AV.pureB, AV.pureE, pureE_map])) fun e0 he0 => ?_
  refine aw_seq (aw_region (sq_box rfl J rfl (sq_box rfl J rfl (asr J rfl (sq_nil (aw_seq (aw_seq ?_)))))))
  refine aw_draw 35 mo (by kernel_rfl) ?_
  refine dr_ev rfl (ev_mv (v := .sl _ _) J) ?_
  refine dr_ev rfl (ev_call en34 J (k34) ⟨J, trivial⟩) ?_
  refine dr_ev rfl (ev_not J) ?_
  refine dr_ev rfl (ev_mv (v := .raw _) J) ?_
  refine dr_yes rfl rfl J rfl (ev_mv (v := .sl _ _) J) ?_
  refine dr_yes rfl rfl J rfl (ev_call en23 J (k23) ⟨J, trivial⟩) ?_
  refine dr_yes rfl rfl J rfl (ev_not J) ?_
  refine dr_ev rfl (ev_pickF (v := .raw _) J J) ?_
  refine dr_ev rfl (ev_mv (v := .raw _) J) ?_
  refine dr_yes rfl rfl J rfl (ev_load_agg J rfl ty23 rfl) ?_
  refine dr_yes rfl rfl J rfl (ev_mv (v := .sl _ _) J) ?_
  refine dr_yes rfl rfl J rfl (ev_load_agg J rfl ty49 rfl) ?_
  refine dr_yes rfl rfl J rfl (ev_load_agg J rfl ty23 rfl) ?_
  refine dr_yes rfl rfl J rfl (ev_call en24 J (k24) ⟨J, trivial⟩) ?_
  refine dr_yes rfl rfl J rfl (ev_mv (v := .raw _) J) ?_
  refine dr_yes rfl rfl J rfl (ev_load_agg J rfl ty23 rfl) ?_
  refine dr_yes rfl rfl J rfl (ev_mv (v := .sl _ _) J) ?_
  refine dr_yes rfl rfl J rfl (ev_call en37 J (k37) ⟨J, J, trivial⟩) ?_
  refine dr_yes rfl rfl J rfl (ev_pickT (v := .raw _) J J) ?_
  refine dr_yes rfl rfl J rfl (ev_call en36 J (k36) ⟨J, J, J, J, trivial⟩) ?_
  refine dr_yes rfl rfl J rfl (ev_neq J J) ?_
  refine dr_ev rfl (ev_pickF (v := .raw _) J J) ?_
  refine dr_ev rfl (ev_mv (v := .raw _) J) ?_
  refine dr_yes rfl rfl J rfl (ev_mv (v := .raw _) J) ?_
  refine dr_yes rfl rfl J rfl (ev_lss J J) ?_
  refine dr_ev rfl (ev_pickF (v := .raw _) J J) ?_
  refine dr_ev rfl (ev_mv (v := .raw _) J) ?_
  refine dr_split 42 J (fun g1_26 => ?_) (fun g1_26 => ?_)
  · skip
    have g1_26' := g1_26
    try simp only [qq] at g1_26'
    first | exact absurd g1_26 (by decide) | (exfalso; simp at g1_26; done) | (exfalso; simp at g1_26; omega) | (exfalso; simp_all; done) | (exfalso; simp_all; omega)
  · skip
    have g1_26' := g1_26
    try simp only [qq] at g1_26'
    refine dr_yes rfl rfl (less_b g1_26) rfl (ev_mv (v := .raw _) J) ?_
    refine dr_yes rfl rfl (less_b g1_26) rfl (ev_fieldAddr fo23_0 J) ?_
    refine dr_yes rfl rfl (less_b g1_26) rfl (ev_load J rfl ty3 rfl) ?_
    refine dr_yes rfl rfl (less_b g1_26) rfl (ev_fieldAddr fo23_1 J) ?_
    refine dr_yes rfl rfl (less_b g1_26) rfl (ev_load J rfl ty3 rfl) ?_
    refine dr_yes rfl rfl (less_b g1_26) rfl (ev_mul J J (wr (by omega) (by omega))) ?_
    refine dr_yes rfl rfl (less_b g1_26) rfl (ev_geq J J) ?_
    refine dr_ev rfl (ev_pickF (v := .raw _) (less_b g1_26) J) ?_
    refine dr_end (sq_nil ?_)
    refine aw_cond J (fun c_50 => ?_) (fun c_50 => ?_)
    · skip
      have c_50' := c_50
      try simp only [qq] at c_50'
      first | exact absurd c_50 (by decide) | (exfalso; simp at c_50; done) | (exfalso; simp at c_50; omega) | (exfalso; simp_all; done) | (exfalso; simp_all; omega)
    · skip
      have c_50' := c_50
      try simp only [qq] at c_50'
      refine aw_skip (aw_seq (aw_region (sq_ev rfl (ev_load_agg J rfl ty23 rfl) ?_)))
      refine mvs rfl J (sq_ev rfl (ev_load_agg J rfl ty49 rfl) ?_)
      refine mvs rfl J (sq_ev rfl (ev_call en35 J (k35) ⟨J, J, J, J, trivial⟩) ?_)
      refine sq_ev rfl (ev_mv (v := .tup _) J) ?_
      refine xtr rfl J rfl (xtr rfl J rfl (xtr rfl J rfl ?_))
      refine asr J rfl (asr J rfl (asr J rfl (sq_nil (aw_seq (aw_region (sq_ev rfl (ev_load_agg J rfl ty23 rfl) ?_))))))
      refine mvs rfl J (sq_ev rfl (ev_load_agg J rfl ty49 rfl) ?_)
      refine mvs rfl J (sq_ev rfl (ev_call en40 J (k40) ⟨J, J, J, J, trivial⟩) ?_)
      refine asr J rfl (sq_nil (aw_seq (aw_seq (aw_region (mvr J rfl (sq_ev rfl (ev_neq J J) ?_))))))
      refine sq_nil ?_
      refine aw_cond J (fun c_67 => ?_) (fun c_67 => ?_)
      · skip
        have c_67' := c_67
        try simp only [qq] at c_67'
        refine aw_seq (aw_region (mvr J rfl (sq_ev rfl (ev_eql J J) ?_)))
        refine mvr J rfl (sq_no rfl rfl J rfl rfl (sq_no rfl rfl J rfl rfl (pf rfl J J (mvr J rfl (ymr rfl rfl J rfl J (sq_yes rfl rfl J rfl (ev_eql J J) ?_))))))
        refine ymr rfl rfl J rfl J (ymr rfl rfl J rfl J (sq_yes rfl rfl J rfl (ev_gtr J J) ?_))
        refine sq_yes rfl rfl J rfl (ev_pickT (v := .raw _) J J) ?_
        refine ymr rfl rfl J rfl J ?_
        refine sq_split 81 J (fun g6_13 => ?_) (fun g6_13 => ?_)
        · skip
          have g6_13' := g6_13
          try simp only [qq] at g6_13'
          refine sq_yes rfl rfl (less_b g6_13) rfl (ev_mv (v := .sl _ _) J) ?_
          refine sq_yes rfl rfl (less_b g6_13) rfl (ev_call en41 J (k41) ⟨J, J, trivial⟩) ?_
          refine sq_yes rfl rfl (less_b g6_13) rfl (ev_eql J J) ?_
          refine sq_yes rfl rfl J rfl (ev_pickT (v := .raw _) (less_b g6_13) J) ?_
          refine pf rfl J J (mvr J rfl (sq_yes rfl rfl J rfl (ev_call en27 J (known_pure) trivial) ?_))
          refine sq_ev rfl (ev_pickT (v := .raw _) J J) ?_
          refine asr J rfl (sq_nil (aw_ret ?_))
          exact retQ_pure (v := .raw _) rfl rfl J
        · skip
          have g6_13' := g6_13
          try simp only [qq] at g6_13'
          first | exact absurd g6_13 (by decide) | (exfalso; simp at g6_13; done) | (exfalso; simp at g6_13; omega) | (exfalso; simp_all; done) | (exfalso; simp_all; omega)
      · skip
        have c_67' := c_67
        try simp only [qq] at c_67'
        first | exact absurd c_67 (by decide) | (exfalso; simp at c_67; done) | (exfalso; simp at c_67; omega) | (exfalso; simp_all; done) | (exfalso; simp_all; omega)
set_option maxRecDepth 20000 in
theorem looks_seen {x : Sn} {sight : List (List UInt8)} {o : Nat} {now : Int} (ho : (o : Int) < x.s.wide * x.s.high) (hwh : 1 ≤ x.s.wide * x.s.high ∧ x.s.wide * x.s.high ≤ 256)
    (k34 : APure Tryz.prog 34 [figs x.l] (B true)) (k23 : APure Tryz.prog 23 [strs sight] (B true)) (k24 : APure Tryz.prog 24 [stA x.s] (B true)) (k37 : APure Tryz.prog 37 [stA x.s, strs sight] (B true)) (k36 : APure Tryz.prog 36 [stA x.s, figs x.l, rcA x.r, B true] (I 0)) {n m : Int} (k35 : APure Tryz.prog 35 [stA x.s, figs x.l, rcA x.r, strs sight] (.tup [I n, I m, I 0])) (k40 : APure Tryz.prog 40 [stA x.s, figs x.l, rcA x.r, strs sight] (I now)) (hn : 0 ≤ n ∧ n < x.s.wide * x.s.high) (hm : 1 ≤ m ∧ m ≤ now) (k42 : APure Tryz.prog 42 [stA x.s, strs sight, I n] (C 63)) (k43 : APure Tryz.prog 43 [stA x.s, figs x.l, rcA x.r, strs sight, I n] (I m)) {ch : UInt8} (k42' : APure Tryz.prog 42 [stA x.s, strs sight, I (o : Int)] (C ch)) (hch : ¬ (ch.toNat : Int) = 63) : APure Tryz.prog 6 [stA x.s, figs x.l, rcA x.r, strs sight, I (o : Int)] (B true) := by
  refine apure_of (rs := [.tmp 10]) Tryz.func6 rfl rfl (Nat.le_of_ble_eq_true rfl) (by simp [AV.pureL, AV.pureB, AV.pureE, pureE_map]) (by first | rfl | (simp [AV.pureL, AV.pureB, AV.pureE, pureE_map])) fun e0 he0 => ?_
  refine aw_seq (aw_region (sq_box rfl J rfl (sq_box rfl J rfl (asr J rfl (sq_nil (aw_seq (aw_seq ?_)))))))
  refine aw_draw 35 mo (by kernel_rfl) ?_
  refine dr_ev rfl (ev_mv (v := .sl _ _) J) ?_
  refine dr_ev rfl (ev_call en34 J (k34) ⟨J, trivial⟩) ?_
  refine dr_ev rfl (ev_not J) ?_
  refine dr_ev rfl (ev_mv (v := .raw _) J) ?_
  refine dr_yes rfl rfl J rfl (ev_mv (v := .sl _ _) J) ?_
  refine dr_yes rfl rfl J rfl (ev_call en23 J (k23) ⟨J, trivial⟩) ?_
  refine dr_yes rfl rfl J rfl (ev_not J) ?_
  refine dr_ev rfl (ev_pickF (v := .raw _) J J) ?_
  refine dr_ev rfl (ev_mv (v := .raw _) J) ?_
  refine dr_yes rfl rfl J rfl (ev_load_agg J rfl ty23 rfl) ?_
  refine dr_yes rfl rfl J rfl (ev_mv (v := .sl _ _) J) ?_
  refine dr_yes rfl rfl J rfl (ev_load_agg J rfl ty49 rfl) ?_
  refine dr_yes rfl rfl J rfl (ev_load_agg J rfl ty23 rfl) ?_
  refine dr_yes rfl rfl J rfl (ev_call en24 J (k24) ⟨J, trivial⟩) ?_
  refine dr_yes rfl rfl J rfl (ev_mv (v := .raw _) J) ?_
  refine dr_yes rfl rfl J rfl (ev_load_agg J rfl ty23 rfl) ?_
  refine dr_yes rfl rfl J rfl (ev_mv (v := .sl _ _) J) ?_
  refine dr_yes rfl rfl J rfl (ev_call en37 J (k37) ⟨J, J, trivial⟩) ?_
  refine dr_yes rfl rfl J rfl (ev_pickT (v := .raw _) J J) ?_
  refine dr_yes rfl rfl J rfl (ev_call en36 J (k36) ⟨J, J, J, J, trivial⟩) ?_
  refine dr_yes rfl rfl J rfl (ev_neq J J) ?_
  refine dr_ev rfl (ev_pickF (v := .raw _) J J) ?_
  refine dr_ev rfl (ev_mv (v := .raw _) J) ?_
  refine dr_yes rfl rfl J rfl (ev_mv (v := .raw _) J) ?_
  refine dr_yes rfl rfl J rfl (ev_lss J J) ?_
  refine dr_ev rfl (ev_pickF (v := .raw _) J J) ?_
  refine dr_ev rfl (ev_mv (v := .raw _) J) ?_
  refine dr_split 42 J (fun g1_26 => ?_) (fun g1_26 => ?_)
  · skip
    have g1_26' := g1_26
    try simp only [qq] at g1_26'
    first | exact absurd g1_26 (by decide) | (exfalso; simp at g1_26; done) | (exfalso; simp at g1_26; omega) | (exfalso; simp_all; done) | (exfalso; simp_all; omega)
  · skip
    have g1_26' := g1_26
    try simp only [qq] at g1_26'
    refine dr_yes rfl rfl (less_b g1_26) rfl (ev_mv (v := .raw _) J) ?_
    refine dr_yes rfl rfl (less_b g1_26) rfl (ev_fieldAddr fo23_0 J) ?_
    refine dr_yes rfl rfl (less_b g1_26) rfl (ev_load J rfl ty3 rfl) ?_
    refine dr_yes rfl rfl (less_b g1_26) rfl (ev_fieldAddr fo23_1 J) ?_
    refine dr_yes rfl rfl (less_b g1_26) rfl (ev_load J rfl ty3 rfl) ?_
    refine dr_yes rfl rfl (less_b g1_26) rfl (ev_mul J J (wr (by omega) (by omega))) ?_
    refine dr_yes rfl rfl (less_b g1_26) rfl (ev_geq J J) ?_
    refine dr_ev rfl (ev_pickF (v := .raw _) (less_b g1_26) J) ?_
    refine dr_end (sq_nil ?_)
    refine aw_cond J (fun c_50 => ?_) (fun c_50 => ?_)
    · skip
      have c_50' := c_50
      try simp only [qq] at c_50'
      first | exact absurd c_50 (by decide) | (exfalso; simp at c_50; done) | (exfalso; simp at c_50; omega) | (exfalso; simp_all; done) | (exfalso; simp_all; omega)
    · skip
      have c_50' := c_50
      try simp only [qq] at c_50'
      refine aw_skip (aw_seq (aw_region (sq_ev rfl (ev_load_agg J rfl ty23 rfl) ?_)))
      refine mvs rfl J (sq_ev rfl (ev_load_agg J rfl ty49 rfl) ?_)
      refine mvs rfl J (sq_ev rfl (ev_call en35 J (k35) ⟨J, J, J, J, trivial⟩) ?_)
      refine sq_ev rfl (ev_mv (v := .tup _) J) ?_
      refine xtr rfl J rfl (xtr rfl J rfl (xtr rfl J rfl ?_))
      refine asr J rfl (asr J rfl (asr J rfl (sq_nil (aw_seq (aw_region (sq_ev rfl (ev_load_agg J rfl ty23 rfl) ?_))))))
      refine mvs rfl J (sq_ev rfl (ev_load_agg J rfl ty49 rfl) ?_)
      refine mvs rfl J (sq_ev rfl (ev_call en40 J (k40) ⟨J, J, J, J, trivial⟩) ?_)
      refine asr J rfl (sq_nil (aw_seq (aw_seq (aw_region (mvr J rfl (sq_ev rfl (ev_neq J J) ?_))))))
      refine sq_nil ?_
      refine aw_cond J (fun c_67 => ?_) (fun c_67 => ?_)
      · skip
        have c_67' := c_67
        try simp only [qq] at c_67'
        first | exact absurd c_67 (by decide) | (exfalso; simp at c_67; done) | (exfalso; simp at c_67; omega) | (exfalso; simp_all; done) | (exfalso; simp_all; omega)
      · skip
        have c_67' := c_67
        try simp only [qq] at c_67'
        refine aw_skip (aw_seq (aw_seq (aw_region (mvr J rfl (sq_ev rfl (ev_lss J J) ?_)))))
        refine mvr J rfl ?_
        refine sq_split 92 J (fun g7_2 => ?_) (fun g7_2 => ?_)
        · skip
          have g7_2' := g7_2
          try simp only [qq] at g7_2'
          first | exact absurd g7_2 (by decide) | (exfalso; simp at g7_2; done) | (exfalso; simp at g7_2; omega) | (exfalso; simp_all; done) | (exfalso; simp_all; omega)
        · skip
          have g7_2' := g7_2
          try simp only [qq] at g7_2'
          refine sq_yes rfl rfl (less_b g7_2) rfl (ev_mv (v := .raw _) J) ?_
          refine sq_yes rfl rfl (less_b g7_2) rfl (ev_fieldAddr fo23_0 J) ?_
          refine sq_yes rfl rfl (less_b g7_2) rfl (ev_load J rfl ty3 rfl) ?_
          refine sq_yes rfl rfl (less_b g7_2) rfl (ev_fieldAddr fo23_1 J) ?_
          refine sq_yes rfl rfl (less_b g7_2) rfl (ev_load J rfl ty3 rfl) ?_
          refine sq_yes rfl rfl (less_b g7_2) rfl (ev_mul J J (wr (by omega) (by omega))) ?_
          refine sq_yes rfl rfl (less_b g7_2) rfl (ev_geq J J) ?_
          refine sq_ev rfl (ev_pickF (v := .raw _) (less_b g7_2) J) ?_
          refine mvr J rfl ?_
          refine sq_split 101 J (fun g7_11 => ?_) (fun g7_11 => ?_)
          · skip
            have g7_11' := g7_11
            try simp only [qq] at g7_11'
            first | exact absurd g7_11 (by decide) | (exfalso; simp at g7_11; done) | (exfalso; simp at g7_11; omega) | (exfalso; simp_all; done) | (exfalso; simp_all; omega)
          · skip
            have g7_11' := g7_11
            try simp only [qq] at g7_11'
            refine sq_yes rfl rfl (less_b g7_11) rfl (ev_load_agg J rfl ty23 rfl) ?_
            refine sq_yes rfl rfl (less_b g7_11) rfl (ev_mv (v := .sl _ _) J) ?_
            refine sq_yes rfl rfl (less_b g7_11) rfl (ev_mv (v := .raw _) J) ?_
            refine sq_yes rfl rfl (less_b g7_11) rfl (ev_call en42 J (k42) ⟨J, J, J, trivial⟩) ?_
            refine sq_yes rfl rfl (less_b g7_11) rfl (ev_neq J J) ?_
            refine sq_ev rfl (ev_pickF (v := .raw _) (less_b g7_11) J) ?_
            refine mvr J rfl (ymr rfl rfl J rfl J (sq_yes rfl rfl J rfl (ev_lss J J) ?_))
            refine pf rfl J J (mvr J rfl ?_)
            refine sq_split 112 J (fun g7_22 => ?_) (fun g7_22 => ?_)
            · skip
              have g7_22' := g7_22
              try simp only [qq] at g7_22'
              first | exact absurd g7_22 (by decide) | (exfalso; simp at g7_22; done) | (exfalso; simp at g7_22; omega) | (exfalso; simp_all; done) | (exfalso; simp_all; omega)
            · skip
              have g7_22' := g7_22
              try simp only [qq] at g7_22'
              refine sq_yes rfl rfl (less_b g7_22) rfl (ev_mv (v := .raw _) J) ?_
              refine sq_yes rfl rfl (less_b g7_22) rfl (ev_mv (v := .raw _) J) ?_
              refine sq_yes rfl rfl (less_b g7_22) rfl (ev_gtr J J) ?_
              refine sq_ev rfl (ev_pickF (v := .raw _) (less_b g7_22) J) ?_
              refine mvr J rfl ?_
              refine sq_split 117 J (fun g7_27 => ?_) (fun g7_27 => ?_)
              · skip
                have g7_27' := g7_27
                try simp only [qq] at g7_27'
                first | exact absurd g7_27 (by decide) | (exfalso; simp at g7_27; done) | (exfalso; simp at g7_27; omega) | (exfalso; simp_all; done) | (exfalso; simp_all; omega)
              · skip
                have g7_27' := g7_27
                try simp only [qq] at g7_27'
                refine sq_yes rfl rfl (less_b g7_27) rfl (ev_load_agg J rfl ty23 rfl) ?_
                refine sq_yes rfl rfl (less_b g7_27) rfl (ev_mv (v := .sl _ _) J) ?_
                refine sq_yes rfl rfl (less_b g7_27) rfl (ev_load_agg J rfl ty49 rfl) ?_
                refine sq_yes rfl rfl (less_b g7_27) rfl (ev_mv (v := .sl _ _) J) ?_
                refine sq_yes rfl rfl (less_b g7_27) rfl (ev_mv (v := .raw _) J) ?_
                refine sq_yes rfl rfl (less_b g7_27) rfl (ev_call en43 J (k43) ⟨J, J, J, J, J, trivial⟩) ?_
                refine sq_yes rfl rfl (less_b g7_27) rfl (ev_mv (v := .raw _) J) ?_
                refine sq_yes rfl rfl (less_b g7_27) rfl (ev_neq J J) ?_
                refine sq_ev rfl (ev_pickF (v := .raw _) (less_b g7_27) J) ?_
                refine sq_nil ?_
                refine aw_cond J (fun c_126 => ?_) (fun c_126 => ?_)
                · skip
                  have c_126' := c_126
                  try simp only [qq] at c_126'
                  first | exact absurd c_126 (by decide) | (exfalso; simp at c_126; done) | (exfalso; simp at c_126; omega) | (exfalso; simp_all; done) | (exfalso; simp_all; omega)
                · skip
                  have c_126' := c_126
                  try simp only [qq] at c_126'
                  refine aw_skip (aw_seq (aw_seq (aw_region (sq_ev rfl (ev_load_agg J rfl ty23 rfl) ?_))))
                  refine mvs rfl J (mvr J rfl (sq_ev rfl (ev_call en42 J (k42') ⟨J, J, J, trivial⟩) ?_))
                  refine sq_ev rfl (ev_neq J J) ?_
                  refine sq_nil ?_
                  refine aw_cond J (fun c_131 => ?_) (fun c_131 => ?_)
                  · skip
                    have c_131' := c_131
                    try simp only [qq] at c_131'
                    refine aw_seq (aw_region (sq_ev rfl (ev_call en27 J (known_pure) trivial) ?_))
                    refine asr J rfl (sq_nil (aw_ret ?_))
                    exact retQ_pure (v := .raw _) rfl rfl J
                  · skip
                    have c_131' := c_131
                    try simp only [qq] at c_131'
                    first | exact absurd c_131 (by decide) | (exfalso; simp at c_131; done) | (exfalso; simp at c_131; omega) | (exfalso; simp_all; done) | (exfalso; simp_all; omega)
set_option maxRecDepth 20000 in
theorem looks_0 {x : Sn} {sight : List (List UInt8)} {o : Nat} {now : Int} (ho : (o : Int) < x.s.wide * x.s.high) (hwh : 1 ≤ x.s.wide * x.s.high ∧ x.s.wide * x.s.high ≤ 256)
    (k34 : APure Tryz.prog 34 [figs x.l] (B true)) (k23 : APure Tryz.prog 23 [strs sight] (B true)) (k24 : APure Tryz.prog 24 [stA x.s] (B true)) (k37 : APure Tryz.prog 37 [stA x.s, strs sight] (B true)) (k36 : APure Tryz.prog 36 [stA x.s, figs x.l, rcA x.r, B true] (I 0)) {n m y : Int} (k35 : APure Tryz.prog 35 [stA x.s, figs x.l, rcA x.r, strs sight] (.tup [I n, I m, I 0])) (k40 : APure Tryz.prog 40 [stA x.s, figs x.l, rcA x.r, strs sight] (I now)) (hn : 0 ≤ n ∧ n < x.s.wide * x.s.high) (hm : 1 ≤ m ∧ m ≤ now) (k42 : APure Tryz.prog 42 [stA x.s, strs sight, I n] (C 63)) (k43 : APure Tryz.prog 43 [stA x.s, figs x.l, rcA x.r, strs sight, I n] (I m)) (k42' : APure Tryz.prog 42 [stA x.s, strs sight, I (o : Int)] (C 63)) (k43' : APure Tryz.prog 43 [stA x.s, figs x.l, rcA x.r, strs sight, I (o : Int)] (I y)) (hy : m < y ∨ (m = y ∧ n ≤ o)) : APure Tryz.prog 6 [stA x.s, figs x.l, rcA x.r, strs sight, I (o : Int)] (B true) := by
  refine apure_of (rs := [.tmp 10]) Tryz.func6 rfl rfl (Nat.le_of_ble_eq_true rfl) (by simp [AV.pureL, AV.pureB, AV.pureE, pureE_map]) (by first | rfl | (simp [AV.pureL, AV.pureB, AV.pureE, pureE_map])) fun e0 he0 => ?_
  refine aw_seq (aw_region (sq_box rfl J rfl (sq_box rfl J rfl (asr J rfl (sq_nil (aw_seq (aw_seq ?_)))))))
  refine aw_draw 35 mo (by kernel_rfl) ?_
  refine dr_ev rfl (ev_mv (v := .sl _ _) J) ?_
  refine dr_ev rfl (ev_call en34 J (k34) ⟨J, trivial⟩) ?_
  refine dr_ev rfl (ev_not J) ?_
  refine dr_ev rfl (ev_mv (v := .raw _) J) ?_
  refine dr_yes rfl rfl J rfl (ev_mv (v := .sl _ _) J) ?_
  refine dr_yes rfl rfl J rfl (ev_call en23 J (k23) ⟨J, trivial⟩) ?_
  refine dr_yes rfl rfl J rfl (ev_not J) ?_
  refine dr_ev rfl (ev_pickF (v := .raw _) J J) ?_
  refine dr_ev rfl (ev_mv (v := .raw _) J) ?_
  refine dr_yes rfl rfl J rfl (ev_load_agg J rfl ty23 rfl) ?_
  refine dr_yes rfl rfl J rfl (ev_mv (v := .sl _ _) J) ?_
  refine dr_yes rfl rfl J rfl (ev_load_agg J rfl ty49 rfl) ?_
  refine dr_yes rfl rfl J rfl (ev_load_agg J rfl ty23 rfl) ?_
  refine dr_yes rfl rfl J rfl (ev_call en24 J (k24) ⟨J, trivial⟩) ?_
  refine dr_yes rfl rfl J rfl (ev_mv (v := .raw _) J) ?_
  refine dr_yes rfl rfl J rfl (ev_load_agg J rfl ty23 rfl) ?_
  refine dr_yes rfl rfl J rfl (ev_mv (v := .sl _ _) J) ?_
  refine dr_yes rfl rfl J rfl (ev_call en37 J (k37) ⟨J, J, trivial⟩) ?_
  refine dr_yes rfl rfl J rfl (ev_pickT (v := .raw _) J J) ?_
  refine dr_yes rfl rfl J rfl (ev_call en36 J (k36) ⟨J, J, J, J, trivial⟩) ?_
  refine dr_yes rfl rfl J rfl (ev_neq J J) ?_
  refine dr_ev rfl (ev_pickF (v := .raw _) J J) ?_
  refine dr_ev rfl (ev_mv (v := .raw _) J) ?_
  refine dr_yes rfl rfl J rfl (ev_mv (v := .raw _) J) ?_
  refine dr_yes rfl rfl J rfl (ev_lss J J) ?_
  refine dr_ev rfl (ev_pickF (v := .raw _) J J) ?_
  refine dr_ev rfl (ev_mv (v := .raw _) J) ?_
  refine dr_split 42 J (fun g1_26 => ?_) (fun g1_26 => ?_)
  · skip
    have g1_26' := g1_26
    try simp only [qq] at g1_26'
    first | exact absurd g1_26 (by decide) | (exfalso; simp at g1_26; done) | (exfalso; simp at g1_26; omega) | (exfalso; simp_all; done) | (exfalso; simp_all; omega)
  · skip
    have g1_26' := g1_26
    try simp only [qq] at g1_26'
    refine dr_yes rfl rfl (less_b g1_26) rfl (ev_mv (v := .raw _) J) ?_
    refine dr_yes rfl rfl (less_b g1_26) rfl (ev_fieldAddr fo23_0 J) ?_
    refine dr_yes rfl rfl (less_b g1_26) rfl (ev_load J rfl ty3 rfl) ?_
    refine dr_yes rfl rfl (less_b g1_26) rfl (ev_fieldAddr fo23_1 J) ?_
    refine dr_yes rfl rfl (less_b g1_26) rfl (ev_load J rfl ty3 rfl) ?_
    refine dr_yes rfl rfl (less_b g1_26) rfl (ev_mul J J (wr (by omega) (by omega))) ?_
    refine dr_yes rfl rfl (less_b g1_26) rfl (ev_geq J J) ?_
    refine dr_ev rfl (ev_pickF (v := .raw _) (less_b g1_26) J) ?_
    refine dr_end (sq_nil ?_)
    refine aw_cond J (fun c_50 => ?_) (fun c_50 => ?_)
    · skip
      have c_50' := c_50
      try simp only [qq] at c_50'
      first | exact absurd c_50 (by decide) | (exfalso; simp at c_50; done) | (exfalso; simp at c_50; omega) | (exfalso; simp_all; done) | (exfalso; simp_all; omega)
    · skip
      have c_50' := c_50
      try simp only [qq] at c_50'
      refine aw_skip (aw_seq (aw_region (sq_ev rfl (ev_load_agg J rfl ty23 rfl) ?_)))
      refine mvs rfl J (sq_ev rfl (ev_load_agg J rfl ty49 rfl) ?_)
      refine mvs rfl J (sq_ev rfl (ev_call en35 J (k35) ⟨J, J, J, J, trivial⟩) ?_)
      refine sq_ev rfl (ev_mv (v := .tup _) J) ?_
      refine xtr rfl J rfl (xtr rfl J rfl (xtr rfl J rfl ?_))
      refine asr J rfl (asr J rfl (asr J rfl (sq_nil (aw_seq (aw_region (sq_ev rfl (ev_load_agg J rfl ty23 rfl) ?_))))))
      refine mvs rfl J (sq_ev rfl (ev_load_agg J rfl ty49 rfl) ?_)
      refine mvs rfl J (sq_ev rfl (ev_call en40 J (k40) ⟨J, J, J, J, trivial⟩) ?_)
      refine asr J rfl (sq_nil (aw_seq (aw_seq (aw_region (mvr J rfl (sq_ev rfl (ev_neq J J) ?_))))))
      refine sq_nil ?_
      refine aw_cond J (fun c_67 => ?_) (fun c_67 => ?_)
      · skip
        have c_67' := c_67
        try simp only [qq] at c_67'
        first | exact absurd c_67 (by decide) | (exfalso; simp at c_67; done) | (exfalso; simp at c_67; omega) | (exfalso; simp_all; done) | (exfalso; simp_all; omega)
      · skip
        have c_67' := c_67
        try simp only [qq] at c_67'
        refine aw_skip (aw_seq (aw_seq (aw_region (mvr J rfl (sq_ev rfl (ev_lss J J) ?_)))))
        refine mvr J rfl ?_
        refine sq_split 92 J (fun g7_2 => ?_) (fun g7_2 => ?_)
        · skip
          have g7_2' := g7_2
          try simp only [qq] at g7_2'
          first | exact absurd g7_2 (by decide) | (exfalso; simp at g7_2; done) | (exfalso; simp at g7_2; omega) | (exfalso; simp_all; done) | (exfalso; simp_all; omega)
        · skip
          have g7_2' := g7_2
          try simp only [qq] at g7_2'
          refine sq_yes rfl rfl (less_b g7_2) rfl (ev_mv (v := .raw _) J) ?_
          refine sq_yes rfl rfl (less_b g7_2) rfl (ev_fieldAddr fo23_0 J) ?_
          refine sq_yes rfl rfl (less_b g7_2) rfl (ev_load J rfl ty3 rfl) ?_
          refine sq_yes rfl rfl (less_b g7_2) rfl (ev_fieldAddr fo23_1 J) ?_
          refine sq_yes rfl rfl (less_b g7_2) rfl (ev_load J rfl ty3 rfl) ?_
          refine sq_yes rfl rfl (less_b g7_2) rfl (ev_mul J J (wr (by omega) (by omega))) ?_
          refine sq_yes rfl rfl (less_b g7_2) rfl (ev_geq J J) ?_
          refine sq_ev rfl (ev_pickF (v := .raw _) (less_b g7_2) J) ?_
          refine mvr J rfl ?_
          refine sq_split 101 J (fun g7_11 => ?_) (fun g7_11 => ?_)
          · skip
            have g7_11' := g7_11
            try simp only [qq] at g7_11'
            first | exact absurd g7_11 (by decide) | (exfalso; simp at g7_11; done) | (exfalso; simp at g7_11; omega) | (exfalso; simp_all; done) | (exfalso; simp_all; omega)
          · skip
            have g7_11' := g7_11
            try simp only [qq] at g7_11'
            refine sq_yes rfl rfl (less_b g7_11) rfl (ev_load_agg J rfl ty23 rfl) ?_
            refine sq_yes rfl rfl (less_b g7_11) rfl (ev_mv (v := .sl _ _) J) ?_
            refine sq_yes rfl rfl (less_b g7_11) rfl (ev_mv (v := .raw _) J) ?_
            refine sq_yes rfl rfl (less_b g7_11) rfl (ev_call en42 J (k42) ⟨J, J, J, trivial⟩) ?_
            refine sq_yes rfl rfl (less_b g7_11) rfl (ev_neq J J) ?_
            refine sq_ev rfl (ev_pickF (v := .raw _) (less_b g7_11) J) ?_
            refine mvr J rfl (ymr rfl rfl J rfl J (sq_yes rfl rfl J rfl (ev_lss J J) ?_))
            refine pf rfl J J (mvr J rfl ?_)
            refine sq_split 112 J (fun g7_22 => ?_) (fun g7_22 => ?_)
            · skip
              have g7_22' := g7_22
              try simp only [qq] at g7_22'
              first | exact absurd g7_22 (by decide) | (exfalso; simp at g7_22; done) | (exfalso; simp at g7_22; omega) | (exfalso; simp_all; done) | (exfalso; simp_all; omega)
            · skip
              have g7_22' := g7_22
              try simp only [qq] at g7_22'
              refine sq_yes rfl rfl (less_b g7_22) rfl (ev_mv (v := .raw _) J) ?_
              refine sq_yes rfl rfl (less_b g7_22) rfl (ev_mv (v := .raw _) J) ?_
              refine sq_yes rfl rfl (less_b g7_22) rfl (ev_gtr J J) ?_
              refine sq_ev rfl (ev_pickF (v := .raw _) (less_b g7_22) J) ?_
              refine mvr J rfl ?_
              refine sq_split 117 J (fun g7_27 => ?_) (fun g7_27 => ?_)
              · skip
                have g7_27' := g7_27
                try simp only [qq] at g7_27'
                first | exact absurd g7_27 (by decide) | (exfalso; simp at g7_27; done) | (exfalso; simp at g7_27; omega) | (exfalso; simp_all; done) | (exfalso; simp_all; omega)
              · skip
                have g7_27' := g7_27
                try simp only [qq] at g7_27'
                refine sq_yes rfl rfl (less_b g7_27) rfl (ev_load_agg J rfl ty23 rfl) ?_
                refine sq_yes rfl rfl (less_b g7_27) rfl (ev_mv (v := .sl _ _) J) ?_
                refine sq_yes rfl rfl (less_b g7_27) rfl (ev_load_agg J rfl ty49 rfl) ?_
                refine sq_yes rfl rfl (less_b g7_27) rfl (ev_mv (v := .sl _ _) J) ?_
                refine sq_yes rfl rfl (less_b g7_27) rfl (ev_mv (v := .raw _) J) ?_
                refine sq_yes rfl rfl (less_b g7_27) rfl (ev_call en43 J (k43) ⟨J, J, J, J, J, trivial⟩) ?_
                refine sq_yes rfl rfl (less_b g7_27) rfl (ev_mv (v := .raw _) J) ?_
                refine sq_yes rfl rfl (less_b g7_27) rfl (ev_neq J J) ?_
                refine sq_ev rfl (ev_pickF (v := .raw _) (less_b g7_27) J) ?_
                refine sq_nil ?_
                refine aw_cond J (fun c_126 => ?_) (fun c_126 => ?_)
                · skip
                  have c_126' := c_126
                  try simp only [qq] at c_126'
                  first | exact absurd c_126 (by decide) | (exfalso; simp at c_126; done) | (exfalso; simp at c_126; omega) | (exfalso; simp_all; done) | (exfalso; simp_all; omega)
                · skip
                  have c_126' := c_126
                  try simp only [qq] at c_126'
                  refine aw_skip (aw_seq (aw_seq (aw_region (sq_ev rfl (ev_load_agg J rfl ty23 rfl) ?_))))
                  refine mvs rfl J (mvr J rfl (sq_ev rfl (ev_call en42 J (k42') ⟨J, J, J, trivial⟩) ?_))
                  refine sq_ev rfl (ev_neq J J) ?_
                  refine sq_nil ?_
                  refine aw_cond J (fun c_131 => ?_) (fun c_131 => ?_)
                  · skip
                    have c_131' := c_131
                    try simp only [qq] at c_131'
                    first | exact absurd c_131 (by decide) | (exfalso; simp at c_131; done) | (exfalso; simp at c_131; omega) | (exfalso; simp_all; done) | (exfalso; simp_all; omega)
                  · skip
                    have c_131' := c_131
                    try simp only [qq] at c_131'
                    refine aw_skip (aw_seq (aw_region (sq_ev rfl (ev_load_agg J rfl ty23 rfl) ?_)))
                    refine mvs rfl J (sq_ev rfl (ev_load_agg J rfl ty49 rfl) ?_)
                    refine mvs rfl J (mvr J rfl (sq_ev rfl (ev_call en43 J (k43') ⟨J, J, J, J, J, trivial⟩) ?_))
                    refine asr J rfl (sq_nil (aw_seq (aw_region (mvr J rfl (mvr J rfl (sq_ev rfl (ev_geq J J) ?_))))))
                    refine mvr J rfl ?_
                    refine sq_split 142 J (fun g12_3 => ?_) (fun g12_3 => ?_)
                    · skip
                      have g12_3' := g12_3
                      try simp only [qq] at g12_3'
                      refine sq_yes rfl rfl (less_b g12_3) rfl (ev_mv (v := .raw _) J) ?_
                      refine sq_yes rfl rfl (less_b g12_3) rfl (ev_mv (v := .raw _) J) ?_
                      refine sq_yes rfl rfl (less_b g12_3) rfl (ev_gtr J J) ?_
                      refine sq_yes rfl rfl (less_b g12_3) rfl (ev_mv (v := .raw _) J) ?_
                      refine sq_split 146 J (fun g12_7 => ?_) (fun g12_7 => ?_)
                      · skip
                        have g12_7' := g12_7
                        try simp only [qq] at g12_7'
                        refine sq_no rfl rfl (less_b g12_7) rfl rfl ?_
                        refine sq_no rfl rfl (less_b g12_7) rfl rfl ?_
                        refine sq_no rfl rfl (less_b g12_7) rfl rfl ?_
                        refine sq_yes rfl rfl (less_b g12_3) rfl (ev_pickT (v := .raw _) (less_b g12_7) J) ?_
                        refine sq_ev rfl (ev_pickT (v := .raw _) (less_b g12_3) J) ?_
                        refine mvr J rfl (sq_yes rfl rfl J rfl (ev_call en27 J (known_pure) trivial) ?_)
                        refine sq_ev rfl (ev_pickT (v := .raw _) J J) ?_
                        refine asr J rfl (sq_nil (aw_ret ?_))
                        exact retQ_pure (v := .raw _) rfl rfl J
                      · skip
                        have g12_7' := g12_7
                        try simp only [qq] at g12_7'
                        refine sq_yes rfl rfl (less_b g12_7) rfl (ev_mv (v := .raw _) J) ?_
                        refine sq_yes rfl rfl (less_b g12_7) rfl (ev_mv (v := .raw _) J) ?_
                        refine sq_yes rfl rfl (less_b g12_7) rfl (ev_geq J J) ?_
                        refine sq_yes rfl rfl (less_b g12_3) rfl (ev_pickF (v := .raw _) (less_b g12_7) J) ?_
                        refine sq_ev rfl (ev_pickT (v := .raw _) (less_b g12_3) J) ?_
                        refine mvr J rfl ?_
                        refine sq_split 152 J (fun g12_13 => ?_) (fun g12_13 => ?_)
                        · skip
                          have g12_13' := g12_13
                          try simp only [qq] at g12_13'
                          refine sq_yes rfl rfl (less_b g12_13) rfl (ev_call en27 J (known_pure) trivial) ?_
                          refine sq_ev rfl (ev_pickT (v := .raw _) (less_b g12_13) J) ?_
                          refine asr J rfl (sq_nil (aw_ret ?_))
                          exact retQ_pure (v := .raw _) rfl rfl J
                        · skip
                          have g12_13' := g12_13
                          try simp only [qq] at g12_13'
                          first | exact absurd g12_13 (by decide) | (exfalso; simp at g12_13; done) | (exfalso; simp at g12_13; omega) | (exfalso; simp_all; done) | (exfalso; simp_all; omega)
                    · skip
                      have g12_3' := g12_3
                      try simp only [qq] at g12_3'
                      first | exact absurd g12_3 (by decide) | (exfalso; simp at g12_3; done) | (exfalso; simp at g12_3; omega) | (exfalso; simp_all; done) | (exfalso; simp_all; omega)
/-- **OutlineLooks.** -/
theorem law6 (x : Sn) (sight : List (List UInt8)) (o : Int) : APure Tryz.prog 6 [stA x.s, figs x.l, rcA x.r, strs sight, I o] (B true) := by
  cases hg : (fewB x.l && (shortB sight && (decide (askE x (stOK x.s && siOK x.s sight) = 0) && decide (0 ≤ o ∧ o < x.s.wide * x.s.high)))) with
  | false => exact looks_gate x sight o hg
  | true =>
    simp only [Bool.and_eq_true, decide_eq_true_eq] at hg
    obtain ⟨hfew, hsh, hask, ho0, ho⟩ := hg
    obtain ⟨hx, his⟩ := askE_0.1 hask
    obtain ⟨hst, hsi⟩ := gate_bool his
    obtain ⟨o, rfl⟩ : ∃ n : Nat, o = n := ⟨o.toNat, by omega⟩
    have hsz := fewB_sz hfew
    have hl : x.l.length ≤ 1000000 := by omega
    have hwh := wh_le hst
    have hclo := sight_clo hst hsi
    have hshp := si_shp hst hsi
    have haok := ask_sn hx hsi
    have k34 : APure Tryz.prog 34 [figs x.l] (B true) := by have := few_pure x.l; rwa [hfew] at this
    have k23 : APure Tryz.prog 23 [strs sight] (B true) := by have := short_pure sight; rwa [hsh] at this
    have k24 : APure Tryz.prog 24 [stA x.s] (B true) := by have := rstage_pure x.s; rwa [hst] at this
    have k37 : APure Tryz.prog 37 [stA x.s, strs sight] (B true) := by have := rsight_pure x.s sight hshp; rwa [hsi] at this
    have k36 : APure Tryz.prog 36 [stA x.s, figs x.l, rcA x.r, B true] (I 0) := by have := asked_pure x true; rwa [askE_0.2 ⟨hx, rfl⟩] at this
    have k35 := next_pure x sight hl hshp
    have k40 := snw_pure hl hx hsi
    cases hany : anyOK x sight with
    | false =>
      rw [nextR_1 haok hany] at k35
      have he : agrees x sight = [] := by unfold anyOK at hany; exact List.length_eq_zero_iff.1 (by simpa using hany)
      rw [he] at k40
      exact looks_7 ho hwh k34 k23 k24 k37 k36 k35 k40
    | true =>
      have hpos : 0 < (agrees x sight).length := by unfold anyOK at hany; simpa using hany
      have hnow := lenS_pos hpos
      by_cases hno : (nextOf x sight).length = 0
      · rw [nextR_2 haok hany hno] at k35
        have hc0 : cnt 63 sight = 0 := by
          have h0 := (cnt_le 63 x.s.wide.toNat sight fun r hr => by rw [hclo.row r hr]; exact Nat.le_refl _).1
          apply Int.le_antisymm _ h0
          apply Int.not_lt.1
          intro hp
          obtain ⟨r, hr, hc⟩ := cnt_pos.1 hp
          obtain ⟨i, hi, rfl⟩ := List.getElem_of_mem hr
          obtain ⟨j, hj, e⟩ := List.getElem_of_mem hc
          have hb := stOK_iff.1 hst
          have hli := hclo.len
          have hrj := hclo.row _ (List.getElem_mem hi)
          have hcell : chAt x.s.wide sight ((i * x.s.wide.toNat + j : Nat) : Int) = 63 := by
            obtain ⟨w, hw⟩ : ∃ w : Nat, x.s.wide = (w : Int) := ⟨x.s.wide.toNat, by omega⟩
            unfold chAt
            rw [hw] at hrj ⊢
            rw [Int.toNat_natCast] at hrj ⊢
            have e1 : (((i * w + j : Nat) : Int) / (w : Int)).toNat = i := by
              rw [← Int.natCast_ediv, Int.toNat_natCast, Nat.add_comm, Nat.add_mul_div_right _ _ (by omega), Nat.div_eq_of_lt (by omega)]; omega
            have e2 : (((i * w + j : Nat) : Int) % (w : Int)).toNat = j := by
              rw [← Int.natCast_emod, Int.toNat_natCast, Nat.add_comm, Nat.add_mul_mod_self_right, Nat.mod_eq_of_lt (by omega)]
            rw [e1, e2, getD_get hi, getD_get hj]; exact e
          have hm : ((i * x.s.wide.toNat + j : Nat) : Int) < x.s.wide * x.s.high := by
            obtain ⟨w, hw⟩ : ∃ w : Nat, x.s.wide = (w : Int) := ⟨x.s.wide.toNat, by omega⟩
            obtain ⟨g, hg⟩ : ∃ g : Nat, x.s.high = (g : Int) := ⟨x.s.high.toNat, by omega⟩
            rw [hw, Int.toNat_natCast] at hrj
            rw [hg, Int.toNat_natCast] at hli
            rw [hw, hg, Int.toNat_natCast]
            have h1 : (i + 1) * w ≤ g * w := Nat.mul_le_mul_right w (by omega)
            rw [Nat.add_mul] at h1
            have h2 : i * w + j < g * w := by omega
            rw [Nat.mul_comm g w] at h2
            exact_mod_cast h2
          have hmem := (looks_mem (w := x.s.wide) (L := agrees x sight) (sight := sight) (k := (x.s.wide * x.s.high).toNat)).2 ⟨i * x.s.wide.toNat + j, by omega, hcell, rfl⟩
          have := List.length_pos_of_mem hmem
          unfold nextOf at hno
          omega
        have k41 := rcount_pure sight 63 hshp.1 hshp.2
        rw [hc0] at k41
        exact looks_5 ho hwh k34 k23 k24 k37 k36 k35 k40 (by omega) k41
      · rw [nextR_3 haok hany hno] at k35
        obtain ⟨hbm, hbest⟩ := best_spec (l := nextOf x sight) (by omega) (looks_rising _ _ _ _)
        obtain ⟨n, hn, h63, hne⟩ := looks_mem.1 hbm
        have e1 : (bestOf (nextOf x sight)).1 = n := by rw [hne]
        have e2 : (bestOf (nextOf x sight)).2 = mostAt x.s.wide (agrees x sight) n := by rw [hne]
        rw [e1, e2] at k35
        have hnl : (n : Int) < x.s.wide * x.s.high := by omega
        have k42 := rcell_pure x.s sight n hst hclo hnl
        rw [h63] at k42
        have k43 := worst_pure hl hx hsi hnl h63
        have hm1 := mostAt_pos x.s.wide (n : Int) hpos
        have hm2 := mostAt_le x.s.wide (agrees x sight) (n : Int)
        have k42' := rcell_pure x.s sight o hst hclo ho
        by_cases ho63 : chAt x.s.wide sight o = 63
        · rw [ho63] at k42'
          have hmo := (looks_mem (w := x.s.wide) (L := agrees x sight) (sight := sight) (k := (x.s.wide * x.s.high).toNat)).2 ⟨o, by omega, ho63, rfl⟩
          have hb := hbest _ hmo
          rw [e1, e2] at hb
          exact looks_0 ho hwh k34 k23 k24 k37 k36 k35 k40 ⟨by omega, hnl⟩ ⟨hm1, hm2⟩ k42 k43 k42' (worst_pure hl hx hsi ho ho63) hb
        · exact looks_seen ho hwh k34 k23 k24 k37 k36 k35 k40 ⟨by omega, hnl⟩ ⟨hm1, hm2⟩ k42 k43 k42' (fun e => ho63 (UInt8.toNat_inj.1 (by have : (63 : UInt8).toNat = 63 := rfl; omega)))
end Go.Proofs.YtmbknoaneglilaaGreatDoor
