/-
  A part of the proof: conditions: none beyond each theorem's own.
-/
import Derived.Test.YtjghdbdiejaacaaGreatDoorSpecA
import Derived.Test.YtjghdbdiejaacaaGreatDoorLogicC
import Derived.KernelRfl
import Derived.Lib.LaidTab
import Derived.Lib.ItoaNum
import Derived.Test.YtjghdbdiejaacaaGreatDoorProg
import Derived.Test.YtjghdbdiejaacaaGreatDoorWalkA
import Derived.Test.YtjghdbdiejaacaaGreatDoorWalkF
import Derived.Test.YtjghdbdiejaacaaGreatDoorWalkG
import Derived.ChangeKeysEq
import Derived.Test.YtjghdbdiejaacaaGreatDoorLogicD
import Derived.Test.YtjghdbdiejaacaaGreatDoorLogicA
import Derived.Test.YtjghdbdiejaacaaGreatDoorLogicB
import Derived.Test.YtjghdbdiejaacaaGreatDoorShelf
import Derived.Test.YtjghdbdiejaacaaGreatDoorWalkB
import Derived.Test.YtjghdbdiejaacaaGreatDoorWalkC
import Derived.Test.YtjghdbdiejaacaaGreatDoorWalkD
import Derived.Test.YtjghdbdiejaacaaGreatDoorWalkE
import Derived.Test.YtjghdbdiejaacaaGreatDoorRow
set_option linter.all false
namespace Ni
theorem has_yes {l : List Int} {n : Int} {k : Nat} (h : k < l.length) (e : l[k] = n) : has l n = true := by
  simp only [has, decide_eq_true_eq]; exact e ▸ List.getElem_mem h
theorem has_no {l : List Int} {n : Int} {k : Nat} (hn : ¬ (k : Int) < l.length) (h : ∀ i, (h : i < l.length) → i < k → l[i] ≠ n) : has l n = false := by
  simp only [has, decide_eq_false_iff_not]
  intro hm
  obtain ⟨j, hj, e⟩ := List.getElem_of_mem hm
  exact h j hj (by omega) e
end Ni
namespace Ni
theorem lsts_inc {n : Nat} : ∀ {m : Nat} {now : List Nat}, now.Pairwise (· < ·) → (∀ x ∈ now, x < nxt now) → ∀ l ∈ lsts n m now, l.Pairwise (· < ·)
  | 0, now, h, _, l, hl => by
    simp only [lsts, List.mem_singleton] at hl
    subst hl; exact h
  | m + 1, now, h, hx, l, hl => by
    simp only [lsts] at hl
    obtain ⟨i, _, hl⟩ := mem_fm.1 hl
    refine lsts_inc (m := m) (now := now ++ [nxt now + i]) ?_ ?_ l hl
    · rw [List.pairwise_append]
      refine ⟨h, by simp, fun a ha b hb => ?_⟩
      simp only [List.mem_singleton] at hb
      have := hx a ha; omega
    · intro x hm
      rw [nxt_app]
      rcases List.mem_append.1 hm with hm | hm
      · have := hx x hm; omega
      · simp only [List.mem_singleton] at hm; omega
theorem allC_inc {p : Pl} {l : List Nat} (h : l ∈ allC p) : l.Pairwise (· < ·) := by
  obtain ⟨i, _, h⟩ := mem_fm.1 h
  unfold aA aL at h
  exact lsts_inc List.Pairwise.nil (by simp) l (List.mem_filter.1 h).1
def FitH (p : Pl) (l : List Nat) (h : Hr) : Prop := Fit p l h.1 h.2.1 h.2.2
section
variable {p : Pl} {l : List Nat}
end
section
variable {p : Pl} {l : List Nat} (wp : WP p) (cv : CV p l) (hc : can p l = true)
include wp cv hc
end
end Ni
namespace Ni
def lsBad (p : Pl) (l : List Nat) (ls : List Int) (i : Nat) (h : i < l.length) : Bool := !inn (ls.getD i 0) (scn p l[i]).least (scn p l[i]).most
def lastsP (p : Pl) (l : List Nat) (ls : List Int) : Bool := decide (l.length = ls.length) && okAll l.length (lsBad p l ls)
theorem getD_at {α : Type} {l : List α} {i : Nat} (h : i < l.length) (d : α) : l.getD i d = l[i] := by rw [List.getD_eq_getElem?_getD, List.getElem?_eq_getElem h]; rfl
section
variable {p : Pl} {l : List Nat} {ls : List Int} (gp : GP p) (wp : WP p) (cv : CV p l) (inc : l.Pairwise (· < ·)) (h : lastsP p l ls = true) (hp : ∀ x ∈ l, 0 ≤ (scn p x).part ∧ (scn p x).part ≤ 2)
include cv inc
include hp
include gp wp h
end
end Ni
namespace Ni
theorem nxt_lt {now : List Nat} {x : Nat} (h : ∀ y ∈ now, y < x) : nxt now ≤ x := nxt_le h
theorem mem_lsts {n : Nat} : ∀ (r now : List Nat), (now ++ r).Pairwise (· < ·) → (∀ x ∈ r, x < n) → now ++ r ∈ lsts n r.length now
  | [], now, _, _ => by simp [lsts]
  | x :: r, now, h, hx => by
    have h1 : nxt now ≤ x := nxt_lt fun y hy => by
      rw [List.pairwise_append] at h
      exact h.2.2 y hy x (by simp)
    have h2 := hx x (by simp)
    simp only [List.length_cons, lsts]
    refine mem_fm.2 ⟨x - nxt now, by omega, ?_⟩
    rw [show nxt now + (x - nxt now) = x by omega]
    have := mem_lsts r (now ++ [x]) (by simpa using h) fun y hy => hx y (List.mem_cons_of_mem _ hy)
    simpa using this
theorem inc_len {n : Nat} {l : List Nat} (h : l.Pairwise (· < ·)) (hx : ∀ x ∈ l, x < n) : l.length ≤ n := by
  have key : ∀ i (hi : i < l.length), i ≤ l[i] := by
    intro i
    induction i with
    | zero => intro _; omega
    | succ i ih =>
      intro hi
      have h1 := ih (by omega)
      have h2 := List.pairwise_iff_getElem.1 h i (i + 1) (by omega) hi (by omega)
      omega
  rcases Nat.eq_zero_or_pos l.length with h0 | h0
  · omega
  · have h1 := key (l.length - 1) (by omega)
    have h2 := hx _ (List.getElem_mem (show l.length - 1 < l.length by omega))
    omega
theorem mem_allC {p : Pl} {l : List Nat} (h : l.Pairwise (· < ·)) (hx : ∀ x ∈ l, x < p.scenes.length) (hc : isC p l = true) : l ∈ allC p := by
  have hl := inc_len h hx
  refine mem_fm.2 ⟨p.scenes.length - l.length, by omega, ?_⟩
  unfold aA aL
  rw [show p.scenes.length - (p.scenes.length - l.length) = l.length by omega]
  exact List.mem_filter.2 ⟨by simpa using mem_lsts (n := p.scenes.length) l [] (by simpa using h) hx, hc⟩
theorem allC_iff {p : Pl} {l : List Nat} : l ∈ allC p ↔ l.Pairwise (· < ·) ∧ (∀ x ∈ l, x < p.scenes.length) ∧ isC p l = true := by
  constructor
  · intro h
    refine ⟨allC_inc h, ?_⟩
    obtain ⟨i, _, h⟩ := mem_fm.1 h
    unfold aA aL at h
    obtain ⟨h1, h2⟩ := List.mem_filter.1 h
    exact ⟨(lsts_mem (by simp) l h1).2, h2⟩
  · rintro ⟨h1, h2, h3⟩; exact mem_allC h1 h2 h3
theorem ris_inc {p : Pl} {l : List Nat} (h : Ris p (up l) = true) : l.Pairwise (· < ·) := by
  unfold Ris at h
  rw [okAll_iff] at h
  have hl : (up l).length = l.length := by simp [up]
  have hs : ∀ i (h1 : i < l.length) (h2 : 0 < i), l[i - 1] < l[i] := fun i h1 h2 => by
    have := h i (by rw [hl]; exact h1)
    simp only [risBad, Bool.or_eq_false_iff, Bool.and_eq_false_iff, decide_eq_false_iff_not] at this
    have e : ∀ j (hj : j < l.length), (up l)[j]'(by rw [hl]; exact hj) = (l[j] : Int) := fun j hj => by simp [up]
    have h3 := this.2
    rw [e i h1, e (i - 1) (by omega)] at h3
    omega
  have step : ∀ d i (h1 : i + d + 1 < l.length), l[i] < l[i + d + 1] := by
    intro d
    induction d with
    | zero => intro i h1; have := hs (i + 1) h1 (by omega); simpa using this
    | succ d ih =>
      intro i h1
      have a := ih i (by omega)
      have b := hs (i + (d + 1) + 1) h1 (by omega)
      simp only [Nat.add_sub_cancel] at b
      have e : i + (d + 1) = i + d + 1 := by omega
      simp only [e] at b
      exact Nat.lt_trans a b
  refine List.pairwise_iff_getElem.2 fun i j h1 h2 h3 => ?_
  obtain ⟨d, rfl⟩ : ∃ d, j = i + d + 1 := ⟨j - i - 1, by omega⟩
  exact step d i h2
theorem inc_ris {p : Pl} {l : List Nat} (h : l.Pairwise (· < ·)) (hx : ∀ x ∈ l, x < p.scenes.length) : Ris p (up l) = true := by
  unfold Ris
  rw [okAll_iff]
  have hl : (up l).length = l.length := by simp [up]
  have e : ∀ j (hj : j < l.length), (up l)[j]'(by rw [hl]; exact hj) = (l[j] : Int) := fun j hj => by simp [up]
  intro i hi
  have hi' : i < l.length := by rw [hl] at hi; exact hi
  have h1 := hx _ (List.getElem_mem hi')
  simp only [risBad, Bool.or_eq_false_iff, Bool.and_eq_false_iff, decide_eq_false_iff_not, Bool.not_eq_false', isSc, inn, Bool.and_eq_true, decide_eq_true_eq]
  rw [e i hi']
  refine ⟨by omega, ?_⟩
  rcases Nat.eq_zero_or_pos i with h0 | h0
  · left; omega
  · right; rw [e (i - 1) (by omega)]
    have := List.pairwise_iff_getElem.1 h (i - 1) i (by omega) hi' (by omega)
    omega
theorem lsts_pre {n : Nat} : ∀ {m : Nat} {now l : List Nat}, l ∈ lsts n m now → ∃ r, l = now ++ r
  | 0, now, l, h => by simp only [lsts, List.mem_singleton] at h; exact ⟨[], by simp [h]⟩
  | m + 1, now, l, h => by
    simp only [lsts] at h
    obtain ⟨i, _, h⟩ := mem_fm.1 h
    obtain ⟨r, hr⟩ := lsts_pre h
    exact ⟨(nxt now + i) :: r, by rw [hr]; simp⟩
theorem fm_pairwise {α : Type} {R : α → α → Prop} {n : Nat} {f : Nat → List α} (h1 : ∀ i, i < n → (f i).Pairwise R) (h2 : ∀ i j, i < j → j < n → ∀ a ∈ f i, ∀ b ∈ f j, R a b) : (fm n f).Pairwise R := by
  induction n with
  | zero => exact List.Pairwise.nil
  | succ n ih =>
    rw [fm_succ, List.pairwise_append]
    refine ⟨ih (fun i hi => h1 i (by omega)) (fun i j hij hj => h2 i j hij (by omega)), h1 n (by omega), fun a ha b hb => ?_⟩
    obtain ⟨i, hi, ha⟩ := mem_fm.1 ha
    exact h2 i n hi (by omega) a ha b hb
theorem aA_len2 {p : Pl} {i : Nat} {l : List Nat} (h : l ∈ aA p i) : l.length = p.scenes.length - i := by
  have := (lsts_mem (by simp) l (List.mem_filter.1 h).1).1
  simpa using this
end Ni
namespace Ni
def lexB : List Int → List Int → Bool
  | x :: a, y :: b => if x = y then lexB a b else decide (x < y)
  | _, _ => false
def soonB (a b : List Int) : Bool := if a.length ≠ b.length then decide (b.length < a.length) else lexB a b
theorem lexB_at {u v : Int} {x y : List Int} (h : u ≠ v) : ∀ c : List Int, lexB (c ++ u :: x) (c ++ v :: y) = decide (u < v)
  | [] => by simp [lexB, h]
  | z :: c => by simp [lexB, lexB_at h c]
theorem lexB_self : ∀ a : List Int, lexB a a = false
  | [] => rfl
  | x :: a => by simp [lexB, lexB_self a]
theorem lexB_asymm : ∀ {a b : List Int}, lexB a b = true → lexB b a = false
  | [], _, h => by simp [lexB] at h
  | _ :: _, [], h => by simp [lexB] at h
  | x :: a, y :: b, h => by
    unfold lexB at h ⊢
    by_cases e : x = y
    · rw [if_pos e] at h; rw [if_pos e.symm]; exact lexB_asymm h
    · rw [if_neg e] at h; rw [if_neg (fun k => e k.symm)]
      simp only [decide_eq_true_eq] at h
      simp only [decide_eq_false_iff_not]; omega
theorem soonB_self (a : List Int) : soonB a a = false := by unfold soonB; rw [if_neg (by simp)]; exact lexB_self a
theorem soonB_asymm {a b : List Int} (h : soonB a b = true) : soonB b a = false := by
  unfold soonB at h ⊢
  by_cases e : a.length = b.length
  · rw [if_neg (by simpa using e)] at h; rw [if_neg (by simpa using e.symm)]; exact lexB_asymm h
  · rw [if_pos e] at h; rw [if_pos (fun k => e k.symm)]
    simp only [decide_eq_true_eq] at h
    simp only [decide_eq_false_iff_not]; omega
theorem lexB_diff {a b : List Int} {k : Nat} (ha : k < a.length) (hb : k < b.length) (h : ∀ j, (h : j < k) → a[j]'(by omega) = b[j]'(by omega)) (hd : a[k] ≠ b[k]) : lexB a b = decide (a[k] < b[k]) := by
  have e : a.take k = b.take k := List.ext_getElem (by simp; omega) fun i h1 h2 => by
    rw [List.getElem_take, List.getElem_take]
    exact h i (by simp at h1; omega)
  have e1 : a = a.take k ++ a[k] :: a.drop (k + 1) := by rw [List.getElem_cons_drop, List.take_append_drop]
  have e2 : b = a.take k ++ b[k] :: b.drop (k + 1) := by rw [e, List.getElem_cons_drop, List.take_append_drop]
  have := lexB_at (x := a.drop (k + 1)) (y := b.drop (k + 1)) hd (a.take k)
  rwa [← e1, ← e2] at this
theorem lexB_same {a b : List Int} (hl : a.length = b.length) (h : ∀ j, (h : j < a.length) → a[j] = b[j]'(by omega)) : lexB a b = false := by
  have : a = b := List.ext_getElem hl fun i h1 h2 => h i h1
  rw [this]; exact lexB_self b
theorem lsts_lexB {n : Nat} : ∀ (m : Nat) (now : List Nat), (lsts n m now).Pairwise fun a b => lexB (up a) (up b) = true
  | 0, now => by simp [lsts]
  | m + 1, now => by
    simp only [lsts]
    refine fm_pairwise (fun i _ => lsts_lexB m _) fun i j hij _ a ha b hb => ?_
    obtain ⟨x, rfl⟩ := lsts_pre ha
    obtain ⟨y, rfl⟩ := lsts_pre hb
    have := lexB_at (u := ((nxt now + i : Nat) : Int)) (v := ((nxt now + j : Nat) : Int)) (x := up x) (y := up y) (by omega) (up now)
    have e1 : up (now ++ [nxt now + i] ++ x) = up now ++ ((nxt now + i : Nat) : Int) :: up x := by simp [up]
    have e2 : up (now ++ [nxt now + j] ++ y) = up now ++ ((nxt now + j : Nat) : Int) :: up y := by simp [up]
    rw [e1, e2, this]; exact decide_eq_true (by omega)
theorem allC_orderB (p : Pl) : (allC p).Pairwise fun a b => soonB (up a) (up b) = true := by
  refine fm_pairwise (fun i _ => ?_) fun i j hij hj a ha b hb => ?_
  · unfold aA
    refine List.Pairwise.filter _ ?_
    unfold aL
    refine List.Pairwise.imp_of_mem ?_ (lsts_lexB _ _)
    intro a b ha hb hab
    have h1 := (lsts_mem (by simp) a ha).1
    have h2 := (lsts_mem (by simp) b hb).1
    unfold soonB
    rw [if_neg (by simp [up]; omega)]
    exact hab
  · have h1 := aA_len2 ha
    have h2 := aA_len2 hb
    unfold soonB
    rw [if_pos (by simp [up]; omega)]
    simp [up]; omega
end Ni
namespace Go.Proofs.YtjghdbdiejaacaaGreatDoor
open Go Go.Ab Ni
section
variable [Tabs] {c : Ctx} {ops : Array Oper} {Q : AExit → St → Prop} {i : Nat} {rest : List Oper} {s : St} {d : Option Tmp} {x y z : Operand} {t : TypeId} {p : String} {af : Array Edge} {v : Value} {j u n : Nat} {want : Bool} {l : List (List AV)}
theorem pf (hd : dOK c.nt d = true) (hx : Less (s.op x) (.raw (.bool false))) (h : Less (s.op z) (.raw v)) (k : SeqWP c ops Q (i + 1) rest (s.put d (.raw v))) : SeqWP c ops Q i (⟨d, .pick x y z, t, p, af, none⟩ :: rest) s := sq_ev hd (ev_pickF hx h) k
theorem ysl (hj : gslot ops j = some u) (ht : Nat.blt u c.nt = true) (hb : Less (sget s.sl u) (.raw (.bool want))) (hd : dOK c.nt d = true) (h : Less (s.op x) (.sl n l)) (k : SeqWP c ops Q (i + 1) rest (s.put d (.sl n l))) : SeqWP c ops Q i (⟨d, .move x, t, p, af, some (j, want)⟩ :: rest) s := sq_yes hj ht hb hd (ev_mv h) k
theorem xtr {m : List AV} {w : AV} (hd : dOK c.nt d = true) (hx : Less (s.op x) (.tup m)) (hv : m[n]? = some w) (k : SeqWP c ops Q (i + 1) rest (s.put d w)) : SeqWP c ops Q i (⟨d, .extract x n, t, p, af, none⟩ :: rest) s := sq_ev hd (ev_extract hx hv) k
theorem mvs (hd : dOK c.nt d = true) (h : Less (s.op x) (.sl n l)) (k : SeqWP c ops Q (i + 1) rest (s.put d (.sl n l))) : SeqWP c ops Q i (⟨d, .move x, t, p, af, none⟩ :: rest) s := sq_ev hd (ev_mv h) k
theorem ass (hd : dOK c.nt d = true) (h : Less (s.op x) (.sl n l)) (k : SeqWP c ops Q (i + 1) rest (s.put d (.sl n l))) : SeqWP c ops Q i (⟨d, .assign x, t, p, af, none⟩ :: rest) s := sq_ev hd (ev_as h) k
theorem ymr (hj : gslot ops j = some u) (ht : Nat.blt u c.nt = true) (hb : Less (sget s.sl u) (.raw (.bool want))) (hd : dOK c.nt d = true) (h : Less (s.op x) (.raw v)) (k : SeqWP c ops Q (i + 1) rest (s.put d (.raw v))) : SeqWP c ops Q i (⟨d, .move x, t, p, af, some (j, want)⟩ :: rest) s := sq_yes hj ht hb hd (ev_mv h) k
end
theorem en35 : Ent Tryz.prog 35 := Ent.of Tryz.func35 (by kernel_rfl) rfl
theorem en62 : Ent Tryz.prog 62 := Ent.of Tryz.func62 (by kernel_rfl) rfl
theorem en89 : Ent Tryz.prog 89 := Ent.of Tryz.func89 (by kernel_rfl) rfl
theorem en90 : Ent Tryz.prog 90 := Ent.of Tryz.func90 (by kernel_rfl) rfl
theorem en91 : Ent Tryz.prog 91 := Ent.of Tryz.func91 (by kernel_rfl) rfl
set_option maxHeartbeats 400000 in
theorem in_pure (n lo hi : Int) : APure Tryz.prog 89 [I n, I lo, I hi] (B (inn n lo hi)) := by
 refine apure_of (rs := [.tmp 6]) Tryz.func89 rfl rfl (Nat.le_of_ble_eq_true rfl) (by simp [AV.pureL, AV.pureB, AV.pureE, pureE_map]) (rfl) fun e0 he0 => ?_
 refine aw_seq (aw_region ?_)
 refine asr (lr _) rfl ?_
 refine sq_nil (aw_seq (aw_region ?_))
 refine mvr (lr _) rfl ?_
 refine mvr (lr _) rfl ?_
 refine sq_ev rfl (ev_geq (lr _) (lr _)) ?_
 refine mvr (lr _) rfl ?_
 refine sq_split 10 (lr _) (fun g1 => ?_) (fun g1 => ?_)
 ·
  have g1' := g1
  try simp only [qq] at g1'
  refine sq_yes rfl rfl (less_b g1) rfl (ev_mv (v := .raw _) (lr _)) ?_
  refine sq_yes rfl rfl (less_b g1) rfl (ev_mv (v := .raw _) (lr _)) ?_
  refine sq_yes rfl rfl (less_b g1) rfl (ev_leq (lr _) (lr _)) ?_
  refine sq_ev rfl (ev_pickT (v := .raw _) (less_b g1) (lr _)) ?_
  refine asr (lr _) rfl ?_
  refine sq_nil (aw_ret ?_)
  exact retQ_pure (v := .raw _) rfl rfl (Less.eq (by simp [inn, *]))
 ·
  have g1' := g1
  try simp only [qq] at g1'
  refine sq_no rfl rfl (less_b g1) rfl rfl ?_
  refine sq_no rfl rfl (less_b g1) rfl rfl ?_
  refine sq_no rfl rfl (less_b g1) rfl rfl ?_
  refine sq_ev rfl (ev_pickF (v := .raw _) (less_b g1) (lr _)) ?_
  refine asr (lr _) rfl ?_
  refine sq_nil (aw_ret ?_)
  exact retQ_pure (v := .raw _) rfl rfl (Less.eq (by simp [inn, *]))
set_option maxHeartbeats 400000 in
theorem window_pure (lo hi : Int) : APure Tryz.prog 90 [.agg [I lo, I hi]] (B (wnd lo hi)) := by
 refine apure_of (rs := [.tmp 2]) Tryz.func90 rfl rfl (Nat.le_of_ble_eq_true rfl) (by simp [AV.pureL, AV.pureB, AV.pureE, pureE_map]) (rfl) fun e0 he0 => ?_
 refine aw_seq (aw_region ?_)
 refine sq_box rfl (lr _) rfl ?_
 refine asr (lr _) rfl ?_
 refine sq_nil (aw_seq (aw_region ?_))
 refine sq_ev rfl (ev_fieldAddr fo23_0 (lr _)) ?_
 refine sq_ev rfl (ev_load (lr _) rfl ty3 rfl) ?_
 refine sq_ev rfl (ev_call en89 (lr _) (in_pure _ _ _) ⟨lr _, lr _, lr _, trivial⟩) ?_
 refine mvr (lr _) rfl ?_
 refine sq_split 6 (lr _) (fun g1 => ?_) (fun g1 => ?_)
 ·
  have g1' := g1
  try simp only [qq] at g1'
  refine sq_yes rfl rfl (less_b g1) rfl (ev_fieldAddr fo23_1 (lr _)) ?_
  refine sq_yes rfl rfl (less_b g1) rfl (ev_load (lr _) rfl ty3 rfl) ?_
  refine sq_yes rfl rfl (less_b g1) rfl (ev_fieldAddr fo23_0 (lr _)) ?_
  refine sq_yes rfl rfl (less_b g1) rfl (ev_load (lr _) rfl ty3 rfl) ?_
  refine sq_yes rfl rfl (less_b g1) rfl (ev_call en89 (lr _) (in_pure _ _ _) ⟨lr _, lr _, lr _, trivial⟩) ?_
  refine sq_ev rfl (ev_pickT (v := .raw _) (less_b g1) (lr _)) ?_
  refine mvr (lr _) rfl ?_
  refine sq_split 13 (lr _) (fun g2 => ?_) (fun g2 => ?_)
  ·
   have g2' := g2
   try simp only [qq] at g2'
   simp only [inn, Bool.and_eq_true, decide_eq_true_eq] at g1' g2'
   refine sq_yes rfl rfl (less_b g2) rfl (ev_fieldAddr fo23_1 (lr _)) ?_
   refine sq_yes rfl rfl (less_b g2) rfl (ev_load (lr _) rfl ty3 rfl) ?_
   refine sq_yes rfl rfl (less_b g2) rfl (ev_fieldAddr fo23_0 (lr _)) ?_
   refine sq_yes rfl rfl (less_b g2) rfl (ev_load (lr _) rfl ty3 rfl) ?_
   refine sq_yes rfl rfl (less_b g2) rfl (ev_sub (lr _) (lr _) (wr (by omega) (by omega))) ?_
   refine sq_yes rfl rfl (less_b g2) rfl (ev_leq (lr _) (lr _)) ?_
   refine sq_ev rfl (ev_pickT (v := .raw _) (less_b g2) (lr _)) ?_
   refine asr (lr _) rfl ?_
   refine sq_nil (aw_ret ?_)
   exact retQ_pure (v := .raw _) rfl rfl (Less.eq (by simp [wnd, *]))
  ·
   have g2' := g2
   try simp only [qq] at g2'
   refine sq_no rfl rfl (less_b g2) rfl rfl ?_
   refine sq_no rfl rfl (less_b g2) rfl rfl ?_
   refine sq_no rfl rfl (less_b g2) rfl rfl ?_
   refine sq_no rfl rfl (less_b g2) rfl rfl ?_
   refine sq_no rfl rfl (less_b g2) rfl rfl ?_
   refine sq_no rfl rfl (less_b g2) rfl rfl ?_
   refine sq_ev rfl (ev_pickF (v := .raw _) (less_b g2) (lr _)) ?_
   refine asr (lr _) rfl ?_
   refine sq_nil (aw_ret ?_)
   exact retQ_pure (v := .raw _) rfl rfl (Less.eq (by simp [wnd, *]))
 ·
  have g1' := g1
  try simp only [qq] at g1'
  refine sq_no rfl rfl (less_b g1) rfl rfl ?_
  refine sq_no rfl rfl (less_b g1) rfl rfl ?_
  refine sq_no rfl rfl (less_b g1) rfl rfl ?_
  refine sq_no rfl rfl (less_b g1) rfl rfl ?_
  refine sq_no rfl rfl (less_b g1) rfl rfl ?_
  refine sq_ev rfl (ev_pickF (v := .raw _) (less_b g1) (lr _)) ?_
  refine mvr (lr _) rfl ?_
  refine sq_no rfl rfl (lr _) rfl rfl ?_
  refine sq_no rfl rfl (lr _) rfl rfl ?_
  refine sq_no rfl rfl (lr _) rfl rfl ?_
  refine sq_no rfl rfl (lr _) rfl rfl ?_
  refine sq_no rfl rfl (lr _) rfl rfl ?_
  refine sq_no rfl rfl (lr _) rfl rfl ?_
  refine pf rfl (lr _) (lr _) ?_
  refine asr (lr _) rfl ?_
  refine sq_nil (aw_ret ?_)
  exact retQ_pure (v := .raw _) rfl rfl (Less.eq (by simp [wnd, *]))
set_option maxHeartbeats 2000000 in
theorem scenes_pure (p : Pl) (hl : p.scenes.length ≤ 1000000) : APure Tryz.prog 91 [plan p] (B (decide (ScOK p.scenes))) := by
 refine apure_of (rs := [.tmp 2]) Tryz.func91 rfl rfl (Nat.le_of_ble_eq_true rfl) (by simp [AV.pureL, AV.pureB, AV.pureE, pureE_map]) (rfl) fun e0 he0 => ?_
 refine aw_seq (aw_region ?_)
 refine sq_box rfl (lr _) rfl ?_
 refine asr (lr _) rfl ?_
 refine sq_nil (aw_seq (aw_region ?_))
 refine asr (lr _) rfl ?_
 refine sq_nil (aw_seq (aw_seq (aw_region ?_)))
 refine asr (lr _) rfl ?_
 refine sq_nil (aw_block ?_)
 refine aw_loopk (ι := { k : Nat // k ≤ p.scenes.length ∧ ∀ i, (h : i < p.scenes.length) → i < k → scBad p.scenes i h = false }) [1] (fun i => [(3, I (loosies (p.scenes.take i.1))), (4, I i.1)]) (fun H i => H) (fun i => p.scenes.length - i.1) (⟨0, Nat.zero_le _, by omega⟩) ⟨lr _, lr _, lr _, trivial⟩ rfl ?_
 rintro ⟨k, hk, hok⟩
 dsimp only [keepS, St.put, sget, slotsOf, List.map_cons, List.map_nil, List.cons_append, List.nil_append, List.length_cons, List.length_nil, Nat.reduceBEq, Nat.reduceAdd, cond_true, cond_false]
 have hlo := loosies_le (p.scenes.take k)
 have hlt := List.length_take_le k p.scenes
 refine aw_seq (aw_seq (aw_region ?_))
 refine mvr (lr _) rfl ?_
 refine sq_ev rfl (ev_fieldAddr fo27_3 (lr _)) ?_
 refine sq_ev rfl (ev_load (lr _) rfl ty25 rfl) ?_
 refine sq_ev rfl (ev_len_map sl25 (lr _)) ?_
 refine sq_ev rfl (ev_lss (lr _) (lr _)) ?_
 refine sq_nil ?_
 refine aw_cond (lr _) (fun c1 => ?_) (fun c1 => ?_)
 ·
  have c1' := c1
  try simp only [qq] at c1'
  refine aw_skip (aw_seq (aw_block (aw_seq (aw_region ?_))))
  refine sq_ev rfl (ev_fieldAddr fo27_3 (lr _)) ?_
  refine sq_ev rfl (ev_load (lr _) rfl ty25 rfl) ?_
  refine mvr (lr _) rfl ?_
  refine sq_ev rfl (ev_index_map sl25 (lr _) (lr _) rfl (by omega)) ?_
  refine sq_ev rfl (ev_load_agg_i (lr _) ty84 (Nat.le_of_ble_eq_true rfl)) ?_
  refine sq_alloc rfl z84 ?_
  refine sq_store rfl (lr _) (lr _) rfl rfl ty84 rfl rfl ?_
  refine sq_nil (aw_seq (aw_seq ?_))
  refine aw_draw 50 mo (by kernel_rfl) ?_
  refine dr_ev rfl (ev_fieldAddr fo84_0 (lr _)) ?_
  refine dr_ev rfl (ev_load (lr _) rfl ty3 rfl) ?_
  refine dr_ev rfl (ev_call en89 (lr _) (in_pure _ _ _) ⟨lr _, lr _, lr _, trivial⟩) ?_
  refine dr_ev rfl (ev_not (lr _)) ?_
  refine dr_ev rfl (ev_mv (v := .raw _) (lr _)) ?_
  refine dr_split 22 (lr _) (fun g2 => ?_) (fun g2 => ?_)
  ·
   have g2' := g2
   try simp only [qq] at g2'
   refine dr_no rfl rfl (less_b g2) rfl rfl ?_
   refine dr_no rfl rfl (less_b g2) rfl rfl ?_
   refine dr_no rfl rfl (less_b g2) rfl rfl ?_
   refine dr_no rfl rfl (lr _) rfl rfl ?_
   refine dr_no rfl rfl (lr _) rfl rfl ?_
   refine dr_no rfl rfl (lr _) rfl rfl ?_
   refine dr_no rfl rfl (lr _) rfl rfl ?_
   refine dr_no rfl rfl (lr _) rfl rfl ?_
   refine dr_no rfl rfl (lr _) rfl rfl ?_
   refine dr_no rfl rfl (lr _) rfl rfl ?_
   refine dr_no rfl rfl (lr _) rfl rfl ?_
   refine dr_no rfl rfl (lr _) rfl rfl ?_
   refine dr_no rfl rfl (lr _) rfl rfl ?_
   refine dr_no rfl rfl (less_b g2) rfl rfl ?_
   refine dr_ev rfl (ev_pickT (v := .raw _) (less_b g2) (lr _)) ?_
   refine dr_ev rfl (ev_mv (v := .raw _) (lr _)) ?_
   refine dr_no rfl rfl (lr _) rfl rfl ?_
   refine dr_no rfl rfl (lr _) rfl rfl ?_
   refine dr_no rfl rfl (lr _) rfl rfl ?_
   refine dr_no rfl rfl (lr _) rfl rfl ?_
   refine dr_ev rfl (ev_pickT (v := .raw _) (lr _) (lr _)) ?_
   refine dr_ev rfl (ev_mv (v := .raw _) (lr _)) ?_
   refine dr_no rfl rfl (lr _) rfl rfl ?_
   refine dr_no rfl rfl (lr _) rfl rfl ?_
   refine dr_no rfl rfl (lr _) rfl rfl ?_
   refine dr_no rfl rfl (lr _) rfl rfl ?_
   refine dr_no rfl rfl (lr _) rfl rfl ?_
   refine dr_no rfl rfl (lr _) rfl rfl ?_
   refine dr_ev rfl (ev_pickT (v := .raw _) (lr _) (lr _)) ?_
   refine dr_ev rfl (ev_mv (v := .raw _) (lr _)) ?_
   refine dr_no rfl rfl (lr _) rfl rfl ?_
   refine dr_no rfl rfl (lr _) rfl rfl ?_
   refine dr_no rfl rfl (lr _) rfl rfl ?_
   refine dr_no rfl rfl (lr _) rfl rfl ?_
   refine dr_no rfl rfl (lr _) rfl rfl ?_
   refine dr_no rfl rfl (lr _) rfl rfl ?_
   refine dr_no rfl rfl (lr _) rfl rfl ?_
   refine dr_no rfl rfl (lr _) rfl rfl ?_
   refine dr_ev rfl (ev_pickT (v := .raw _) (lr _) (lr _)) ?_
   refine dr_ev rfl (ev_mv (v := .raw _) (lr _)) ?_
   refine dr_no rfl rfl (lr _) rfl rfl ?_
   refine dr_no rfl rfl (lr _) rfl rfl ?_
   refine dr_no rfl rfl (lr _) rfl rfl ?_
   refine dr_no rfl rfl (lr _) rfl rfl ?_
   refine dr_ev rfl (ev_pickT (v := .raw _) (lr _) (lr _)) ?_
   refine dr_end (sq_nil ?_)
   refine aw_true (lr _) ?_
   refine aw_seq (aw_region ?_)
   refine asr (lr _) rfl ?_
   refine sq_nil (aw_ret ?_)
   exact retQ_pure (v := .raw _) rfl rfl (Less.eq (by rw [scOK_bad (i := k) (by omega) (by simp [scBad, *])]))
  ·
   have g2' := g2
   try simp only [qq] at g2'
   refine dr_yes rfl rfl (less_b g2) rfl (ev_mv (v := .raw _) (lr _)) ?_
   refine dr_yes rfl rfl (less_b g2) rfl (ev_gtr (lr _) (lr _)) ?_
   refine dr_yes rfl rfl (less_b g2) rfl (ev_mv (v := .raw _) (lr _)) ?_
   refine dr_split 25 (lr _) (fun g3 => ?_) (fun g3 => ?_)
   ·
    have g3' := g3
    try simp only [qq] at g3'
    have g3n : 0 < k := by omega
    refine dr_yes rfl rfl (less_b g3) rfl (ev_fieldAddr fo84_0 (lr _)) ?_
    refine dr_yes rfl rfl (less_b g3) rfl (ev_load (lr _) rfl ty3 rfl) ?_
    refine dr_yes rfl rfl (less_b g3) rfl (ev_fieldAddr fo27_3 (lr _)) ?_
    refine dr_yes rfl rfl (less_b g3) rfl (ev_load (lr _) rfl ty25 rfl) ?_
    refine dr_yes rfl rfl (less_b g3) rfl (ev_mv (v := .raw _) (lr _)) ?_
    refine dr_yes rfl rfl (less_b g3) rfl (ev_sub (lr _) (lr _) (wr (by omega) (by omega))) ?_
    refine dr_yes rfl rfl (less_b g3) rfl (ev_index_map sl25 (lr _) (lr _) (show ((k : Int) - 1) = ((k - 1 : Nat) : Int) by omega) (by omega)) ?_
    refine dr_yes rfl rfl (less_b g3) rfl (ev_fieldAddr_i fo84_0 (lr _)) ?_
    refine dr_yes rfl rfl (less_b g3) rfl (ev_load_i (lr _) ty3 rfl) ?_
    refine dr_yes rfl rfl (less_b g3) rfl (ev_lss (lr _) (lr _)) ?_
    refine dr_yes rfl rfl (less_b g2) rfl (ev_pickT (v := .raw _) (less_b g3) (lr _)) ?_
    refine dr_ev rfl (ev_pickF (v := .raw _) (less_b g2) (lr _)) ?_
    refine dr_ev rfl (ev_mv (v := .raw _) (lr _)) ?_
    refine dr_split 38 (lr _) (fun g4 => ?_) (fun g4 => ?_)
    ·
     have g4' := g4
     try simp only [qq] at g4'
     refine dr_no rfl rfl (less_b g4) rfl rfl ?_
     refine dr_no rfl rfl (less_b g4) rfl rfl ?_
     refine dr_no rfl rfl (less_b g4) rfl rfl ?_
     refine dr_no rfl rfl (less_b g4) rfl rfl ?_
     refine dr_ev rfl (ev_pickT (v := .raw _) (less_b g4) (lr _)) ?_
     refine dr_ev rfl (ev_mv (v := .raw _) (lr _)) ?_
     refine dr_no rfl rfl (lr _) rfl rfl ?_
     refine dr_no rfl rfl (lr _) rfl rfl ?_
     refine dr_no rfl rfl (lr _) rfl rfl ?_
     refine dr_no rfl rfl (lr _) rfl rfl ?_
     refine dr_no rfl rfl (lr _) rfl rfl ?_
     refine dr_no rfl rfl (lr _) rfl rfl ?_
     refine dr_ev rfl (ev_pickT (v := .raw _) (lr _) (lr _)) ?_
     refine dr_ev rfl (ev_mv (v := .raw _) (lr _)) ?_
     refine dr_no rfl rfl (lr _) rfl rfl ?_
     refine dr_no rfl rfl (lr _) rfl rfl ?_
     refine dr_no rfl rfl (lr _) rfl rfl ?_
     refine dr_no rfl rfl (lr _) rfl rfl ?_
     refine dr_no rfl rfl (lr _) rfl rfl ?_
     refine dr_no rfl rfl (lr _) rfl rfl ?_
     refine dr_no rfl rfl (lr _) rfl rfl ?_
     refine dr_no rfl rfl (lr _) rfl rfl ?_
     refine dr_ev rfl (ev_pickT (v := .raw _) (lr _) (lr _)) ?_
     refine dr_ev rfl (ev_mv (v := .raw _) (lr _)) ?_
     refine dr_no rfl rfl (lr _) rfl rfl ?_
     refine dr_no rfl rfl (lr _) rfl rfl ?_
     refine dr_no rfl rfl (lr _) rfl rfl ?_
     refine dr_no rfl rfl (lr _) rfl rfl ?_
     refine dr_ev rfl (ev_pickT (v := .raw _) (lr _) (lr _)) ?_
     refine dr_end (sq_nil ?_)
     refine aw_true (lr _) ?_
     refine aw_seq (aw_region ?_)
     refine asr (lr _) rfl ?_
     refine sq_nil (aw_ret ?_)
     exact retQ_pure (v := .raw _) rfl rfl (Less.eq (by rw [scOK_bad (i := k) (by omega) (by simp [scBad, *])]))
    ·
     have g4' := g4
     try simp only [qq] at g4'
     refine dr_yes rfl rfl (less_b g4) rfl (ev_fieldAddr fo84_1 (lr _)) ?_
     refine dr_yes rfl rfl (less_b g4) rfl (ev_load (lr _) rfl ty3 rfl) ?_
     refine dr_yes rfl rfl (less_b g4) rfl (ev_call en89 (lr _) (in_pure _ _ _) ⟨lr _, lr _, lr _, trivial⟩) ?_
     refine dr_yes rfl rfl (less_b g4) rfl (ev_not (lr _)) ?_
     refine dr_ev rfl (ev_pickF (v := .raw _) (less_b g4) (lr _)) ?_
     refine dr_ev rfl (ev_mv (v := .raw _) (lr _)) ?_
     refine dr_split 44 (lr _) (fun g5 => ?_) (fun g5 => ?_)
     ·
      have g5' := g5
      try simp only [qq] at g5'
      refine dr_no rfl rfl (less_b g5) rfl rfl ?_
      refine dr_no rfl rfl (less_b g5) rfl rfl ?_
      refine dr_no rfl rfl (less_b g5) rfl rfl ?_
      refine dr_no rfl rfl (less_b g5) rfl rfl ?_
      refine dr_no rfl rfl (less_b g5) rfl rfl ?_
      refine dr_no rfl rfl (less_b g5) rfl rfl ?_
      refine dr_ev rfl (ev_pickT (v := .raw _) (less_b g5) (lr _)) ?_
      refine dr_ev rfl (ev_mv (v := .raw _) (lr _)) ?_
      refine dr_no rfl rfl (lr _) rfl rfl ?_
      refine dr_no rfl rfl (lr _) rfl rfl ?_
      refine dr_no rfl rfl (lr _) rfl rfl ?_
      refine dr_no rfl rfl (lr _) rfl rfl ?_
      refine dr_no rfl rfl (lr _) rfl rfl ?_
      refine dr_no rfl rfl (lr _) rfl rfl ?_
      refine dr_no rfl rfl (lr _) rfl rfl ?_
      refine dr_no rfl rfl (lr _) rfl rfl ?_
      refine dr_ev rfl (ev_pickT (v := .raw _) (lr _) (lr _)) ?_
      refine dr_ev rfl (ev_mv (v := .raw _) (lr _)) ?_
      refine dr_no rfl rfl (lr _) rfl rfl ?_
      refine dr_no rfl rfl (lr _) rfl rfl ?_
      refine dr_no rfl rfl (lr _) rfl rfl ?_
      refine dr_no rfl rfl (lr _) rfl rfl ?_
      refine dr_ev rfl (ev_pickT (v := .raw _) (lr _) (lr _)) ?_
      refine dr_end (sq_nil ?_)
      refine aw_true (lr _) ?_
      refine aw_seq (aw_region ?_)
      refine asr (lr _) rfl ?_
      refine sq_nil (aw_ret ?_)
      exact retQ_pure (v := .raw _) rfl rfl (Less.eq (by rw [scOK_bad (i := k) (by omega) (by simp [scBad, *])]))
     ·
      have g5' := g5
      try simp only [qq] at g5'
      refine dr_yes rfl rfl (less_b g5) rfl (ev_fieldAddr fo84_2 (lr _)) ?_
      refine dr_yes rfl rfl (less_b g5) rfl (ev_load (lr _) rfl ty3 rfl) ?_
      refine dr_yes rfl rfl (less_b g5) rfl (ev_fieldAddr fo84_1 (lr _)) ?_
      refine dr_yes rfl rfl (less_b g5) rfl (ev_load (lr _) rfl ty3 rfl) ?_
      refine dr_yes rfl rfl (less_b g5) rfl (ev_call en89 (lr _) (in_pure _ _ _) ⟨lr _, lr _, lr _, trivial⟩) ?_
      refine dr_yes rfl rfl (less_b g5) rfl (ev_not (lr _)) ?_
      refine dr_ev rfl (ev_pickF (v := .raw _) (less_b g5) (lr _)) ?_
      refine dr_ev rfl (ev_mv (v := .raw _) (lr _)) ?_
      refine dr_split 52 (lr _) (fun g6 => ?_) (fun g6 => ?_)
      ·
       have g6' := g6
       try simp only [qq] at g6'
       refine dr_no rfl rfl (less_b g6) rfl rfl ?_
       refine dr_no rfl rfl (less_b g6) rfl rfl ?_
       refine dr_no rfl rfl (less_b g6) rfl rfl ?_
       refine dr_no rfl rfl (less_b g6) rfl rfl ?_
       refine dr_no rfl rfl (less_b g6) rfl rfl ?_
       refine dr_no rfl rfl (less_b g6) rfl rfl ?_
       refine dr_no rfl rfl (less_b g6) rfl rfl ?_
       refine dr_no rfl rfl (less_b g6) rfl rfl ?_
       refine dr_ev rfl (ev_pickT (v := .raw _) (less_b g6) (lr _)) ?_
       refine dr_ev rfl (ev_mv (v := .raw _) (lr _)) ?_
       refine dr_no rfl rfl (lr _) rfl rfl ?_
       refine dr_no rfl rfl (lr _) rfl rfl ?_
       refine dr_no rfl rfl (lr _) rfl rfl ?_
       refine dr_no rfl rfl (lr _) rfl rfl ?_
       refine dr_ev rfl (ev_pickT (v := .raw _) (lr _) (lr _)) ?_
       refine dr_end (sq_nil ?_)
       refine aw_true (lr _) ?_
       refine aw_seq (aw_region ?_)
       refine asr (lr _) rfl ?_
       refine sq_nil (aw_ret ?_)
       exact retQ_pure (v := .raw _) rfl rfl (Less.eq (by rw [scOK_bad (i := k) (by omega) (by simp [scBad, *])]))
      ·
       have g6' := g6
       try simp only [qq] at g6'
       refine dr_yes rfl rfl (less_b g6) rfl (ev_fieldAddr fo84_4 (lr _)) ?_
       refine dr_yes rfl rfl (less_b g6) rfl (ev_load (lr _) rfl ty3 rfl) ?_
       refine dr_yes rfl rfl (less_b g6) rfl (ev_fieldAddr fo27_3 (lr _)) ?_
       refine dr_yes rfl rfl (less_b g6) rfl (ev_load (lr _) rfl ty25 rfl) ?_
       refine dr_yes rfl rfl (less_b g6) rfl (ev_len_map sl25 (lr _)) ?_
       refine dr_yes rfl rfl (less_b g6) rfl (ev_sub (lr _) (lr _) (wr (by omega) (by omega))) ?_
       refine dr_yes rfl rfl (less_b g6) rfl (ev_call en89 (lr _) (in_pure _ _ _) ⟨lr _, lr _, lr _, trivial⟩) ?_
       refine dr_yes rfl rfl (less_b g6) rfl (ev_not (lr _)) ?_
       refine dr_ev rfl (ev_pickF (v := .raw _) (less_b g6) (lr _)) ?_
       refine dr_ev rfl (ev_mv (v := .raw _) (lr _)) ?_
       refine dr_split 62 (lr _) (fun g7 => ?_) (fun g7 => ?_)
       ·
        have g7' := g7
        try simp only [qq] at g7'
        refine dr_no rfl rfl (less_b g7) rfl rfl ?_
        refine dr_no rfl rfl (less_b g7) rfl rfl ?_
        refine dr_no rfl rfl (less_b g7) rfl rfl ?_
        refine dr_no rfl rfl (less_b g7) rfl rfl ?_
        refine dr_ev rfl (ev_pickT (v := .raw _) (less_b g7) (lr _)) ?_
        refine dr_end (sq_nil ?_)
        refine aw_true (lr _) ?_
        refine aw_seq (aw_region ?_)
        refine asr (lr _) rfl ?_
        refine sq_nil (aw_ret ?_)
        exact retQ_pure (v := .raw _) rfl rfl (Less.eq (by rw [scOK_bad (i := k) (by omega) (by simp [scBad, *])]))
       ·
        have g7' := g7
        try simp only [qq] at g7'
        refine dr_yes rfl rfl (less_b g7) rfl (ev_fieldAddr fo84_4 (lr _)) ?_
        refine dr_yes rfl rfl (less_b g7) rfl (ev_load (lr _) rfl ty3 rfl) ?_
        refine dr_yes rfl rfl (less_b g7) rfl (ev_mv (v := .raw _) (lr _)) ?_
        refine dr_yes rfl rfl (less_b g7) rfl (ev_eql (lr _) (lr _)) ?_
        refine dr_ev rfl (ev_pickF (v := .raw _) (less_b g7) (lr _)) ?_
        refine dr_end (sq_nil ?_)
        refine aw_cond (lr _) (fun c8 => ?_) (fun c8 => ?_)
        ·
         have c8' := c8
         try simp only [qq] at c8'
         refine aw_seq (aw_region ?_)
         refine asr (lr _) rfl ?_
         refine sq_nil (aw_ret ?_)
         exact retQ_pure (v := .raw _) rfl rfl (Less.eq (by rw [scOK_bad (i := k) (by omega) (by simp [scBad, *])]))
        ·
         have c8' := c8
         try simp only [qq] at c8'
         refine aw_skip (aw_seq (aw_region ?_))
         refine sq_ev rfl (ev_fieldAddr fo84_3 (lr _)) ?_
         refine sq_ev rfl (ev_load (lr _) rfl ty4 rfl) ?_
         refine sq_nil ?_
         refine aw_cond (lr _) (fun c9 => ?_) (fun c9 => ?_)
         ·
          have c9' := c9
          try simp only [qq] at c9'
          refine aw_region ?_
          refine mvr (lr _) rfl ?_
          refine sq_ev rfl (ev_add (lr _) (lr _) (wr (by omega) (by omega))) ?_
          refine asr (lr _) rfl ?_
          refine sq_nil (aw_region ?_)
          refine mvr (lr _) rfl ?_
          refine sq_ev rfl (ev_add (lr _) (lr _) (wr (by omega) (by omega))) ?_
          refine asr (lr _) rfl ?_
          refine sq_nil ?_
          have hstep := loosies_take (l := p.scenes) (k := k) (by omega)
          have hgood : scBad p.scenes k (by omega) = false := by simp [scBad, *]
          exact ⟨⟨k + 1, by omega, fun i h hi => (by by_cases e : i = k; (subst e; exact hgood); exact hok i h (by omega))⟩, by simp only; omega, Sub.fin 1 ⟨less_int (by rw [hstep]; simp [*]), lr _, lr _, trivial⟩ rfl (by simp [slotsIn, objsIn, sget, keepS, AObj.inB, AV.inB, AV.inL, AV.inE, inE_map]) (by simp [slotsIn, objsIn, sget, keepS, AObj.inB, AV.inB, AV.inL, AV.inE, inE_map]) (by simp [he0])⟩
         ·
          have c9' := c9
          try simp only [qq] at c9'
          refine aw_skip (aw_region ?_)
          refine mvr (lr _) rfl ?_
          refine sq_ev rfl (ev_add (lr _) (lr _) (wr (by omega) (by omega))) ?_
          refine asr (lr _) rfl ?_
          refine sq_nil ?_
          have hstep := loosies_take (l := p.scenes) (k := k) (by omega)
          have hgood : scBad p.scenes k (by omega) = false := by simp [scBad, *]
          exact ⟨⟨k + 1, by omega, fun i h hi => (by by_cases e : i = k; (subst e; exact hgood); exact hok i h (by omega))⟩, by simp only; omega, Sub.fin 1 ⟨less_int (by rw [hstep]; simp [*]), lr _, lr _, trivial⟩ rfl (by simp [slotsIn, objsIn, sget, keepS, AObj.inB, AV.inB, AV.inL, AV.inE, inE_map]) (by simp [slotsIn, objsIn, sget, keepS, AObj.inB, AV.inB, AV.inL, AV.inE, inE_map]) (by simp [he0])⟩
   ·
    have g3' := g3
    try simp only [qq] at g3'
    have g3n : ¬ (0 < k) := by omega
    refine dr_no rfl rfl (less_b g3) rfl rfl ?_
    refine dr_no rfl rfl (less_b g3) rfl rfl ?_
    refine dr_no rfl rfl (less_b g3) rfl rfl ?_
    refine dr_no rfl rfl (less_b g3) rfl rfl ?_
    refine dr_no rfl rfl (less_b g3) rfl rfl ?_
    refine dr_no rfl rfl (less_b g3) rfl rfl ?_
    refine dr_no rfl rfl (less_b g3) rfl rfl ?_
    refine dr_no rfl rfl (less_b g3) rfl rfl ?_
    refine dr_no rfl rfl (less_b g3) rfl rfl ?_
    refine dr_no rfl rfl (less_b g3) rfl rfl ?_
    refine dr_yes rfl rfl (less_b g2) rfl (ev_pickF (v := .raw _) (less_b g3) (lr _)) ?_
    refine dr_ev rfl (ev_pickF (v := .raw _) (less_b g2) (lr _)) ?_
    refine dr_ev rfl (ev_mv (v := .raw _) (lr _)) ?_
    refine dr_yes rfl rfl (lr _) rfl (ev_fieldAddr fo84_1 (lr _)) ?_
    refine dr_yes rfl rfl (lr _) rfl (ev_load (lr _) rfl ty3 rfl) ?_
    refine dr_yes rfl rfl (lr _) rfl (ev_call en89 (lr _) (in_pure _ _ _) ⟨lr _, lr _, lr _, trivial⟩) ?_
    refine dr_yes rfl rfl (lr _) rfl (ev_not (lr _)) ?_
    refine dr_ev rfl (ev_pickF (v := .raw _) (lr _) (lr _)) ?_
    refine dr_ev rfl (ev_mv (v := .raw _) (lr _)) ?_
    refine dr_split 44 (lr _) (fun g10 => ?_) (fun g10 => ?_)
    ·
     have g10' := g10
     try simp only [qq] at g10'
     refine dr_no rfl rfl (less_b g10) rfl rfl ?_
     refine dr_no rfl rfl (less_b g10) rfl rfl ?_
     refine dr_no rfl rfl (less_b g10) rfl rfl ?_
     refine dr_no rfl rfl (less_b g10) rfl rfl ?_
     refine dr_no rfl rfl (less_b g10) rfl rfl ?_
     refine dr_no rfl rfl (less_b g10) rfl rfl ?_
     refine dr_ev rfl (ev_pickT (v := .raw _) (less_b g10) (lr _)) ?_
     refine dr_ev rfl (ev_mv (v := .raw _) (lr _)) ?_
     refine dr_no rfl rfl (lr _) rfl rfl ?_
     refine dr_no rfl rfl (lr _) rfl rfl ?_
     refine dr_no rfl rfl (lr _) rfl rfl ?_
     refine dr_no rfl rfl (lr _) rfl rfl ?_
     refine dr_no rfl rfl (lr _) rfl rfl ?_
     refine dr_no rfl rfl (lr _) rfl rfl ?_
     refine dr_no rfl rfl (lr _) rfl rfl ?_
     refine dr_no rfl rfl (lr _) rfl rfl ?_
     refine dr_ev rfl (ev_pickT (v := .raw _) (lr _) (lr _)) ?_
     refine dr_ev rfl (ev_mv (v := .raw _) (lr _)) ?_
     refine dr_no rfl rfl (lr _) rfl rfl ?_
     refine dr_no rfl rfl (lr _) rfl rfl ?_
     refine dr_no rfl rfl (lr _) rfl rfl ?_
     refine dr_no rfl rfl (lr _) rfl rfl ?_
     refine dr_ev rfl (ev_pickT (v := .raw _) (lr _) (lr _)) ?_
     refine dr_end (sq_nil ?_)
     refine aw_true (lr _) ?_
     refine aw_seq (aw_region ?_)
     refine asr (lr _) rfl ?_
     refine sq_nil (aw_ret ?_)
     exact retQ_pure (v := .raw _) rfl rfl (Less.eq (by rw [scOK_bad (i := k) (by omega) (by simp [scBad, *])]))
    ·
     have g10' := g10
     try simp only [qq] at g10'
     refine dr_yes rfl rfl (less_b g10) rfl (ev_fieldAddr fo84_2 (lr _)) ?_
     refine dr_yes rfl rfl (less_b g10) rfl (ev_load (lr _) rfl ty3 rfl) ?_
     refine dr_yes rfl rfl (less_b g10) rfl (ev_fieldAddr fo84_1 (lr _)) ?_
     refine dr_yes rfl rfl (less_b g10) rfl (ev_load (lr _) rfl ty3 rfl) ?_
     refine dr_yes rfl rfl (less_b g10) rfl (ev_call en89 (lr _) (in_pure _ _ _) ⟨lr _, lr _, lr _, trivial⟩) ?_
     refine dr_yes rfl rfl (less_b g10) rfl (ev_not (lr _)) ?_
     refine dr_ev rfl (ev_pickF (v := .raw _) (less_b g10) (lr _)) ?_
     refine dr_ev rfl (ev_mv (v := .raw _) (lr _)) ?_
     refine dr_split 52 (lr _) (fun g11 => ?_) (fun g11 => ?_)
     ·
      have g11' := g11
      try simp only [qq] at g11'
      refine dr_no rfl rfl (less_b g11) rfl rfl ?_
      refine dr_no rfl rfl (less_b g11) rfl rfl ?_
      refine dr_no rfl rfl (less_b g11) rfl rfl ?_
      refine dr_no rfl rfl (less_b g11) rfl rfl ?_
      refine dr_no rfl rfl (less_b g11) rfl rfl ?_
      refine dr_no rfl rfl (less_b g11) rfl rfl ?_
      refine dr_no rfl rfl (less_b g11) rfl rfl ?_
      refine dr_no rfl rfl (less_b g11) rfl rfl ?_
      refine dr_ev rfl (ev_pickT (v := .raw _) (less_b g11) (lr _)) ?_
      refine dr_ev rfl (ev_mv (v := .raw _) (lr _)) ?_
      refine dr_no rfl rfl (lr _) rfl rfl ?_
      refine dr_no rfl rfl (lr _) rfl rfl ?_
      refine dr_no rfl rfl (lr _) rfl rfl ?_
      refine dr_no rfl rfl (lr _) rfl rfl ?_
      refine dr_ev rfl (ev_pickT (v := .raw _) (lr _) (lr _)) ?_
      refine dr_end (sq_nil ?_)
      refine aw_true (lr _) ?_
      refine aw_seq (aw_region ?_)
      refine asr (lr _) rfl ?_
      refine sq_nil (aw_ret ?_)
      exact retQ_pure (v := .raw _) rfl rfl (Less.eq (by rw [scOK_bad (i := k) (by omega) (by simp [scBad, *])]))
     ·
      have g11' := g11
      try simp only [qq] at g11'
      refine dr_yes rfl rfl (less_b g11) rfl (ev_fieldAddr fo84_4 (lr _)) ?_
      refine dr_yes rfl rfl (less_b g11) rfl (ev_load (lr _) rfl ty3 rfl) ?_
      refine dr_yes rfl rfl (less_b g11) rfl (ev_fieldAddr fo27_3 (lr _)) ?_
      refine dr_yes rfl rfl (less_b g11) rfl (ev_load (lr _) rfl ty25 rfl) ?_
      refine dr_yes rfl rfl (less_b g11) rfl (ev_len_map sl25 (lr _)) ?_
      refine dr_yes rfl rfl (less_b g11) rfl (ev_sub (lr _) (lr _) (wr (by omega) (by omega))) ?_
      refine dr_yes rfl rfl (less_b g11) rfl (ev_call en89 (lr _) (in_pure _ _ _) ⟨lr _, lr _, lr _, trivial⟩) ?_
      refine dr_yes rfl rfl (less_b g11) rfl (ev_not (lr _)) ?_
      refine dr_ev rfl (ev_pickF (v := .raw _) (less_b g11) (lr _)) ?_
      refine dr_ev rfl (ev_mv (v := .raw _) (lr _)) ?_
      refine dr_split 62 (lr _) (fun g12 => ?_) (fun g12 => ?_)
      ·
       have g12' := g12
       try simp only [qq] at g12'
       refine dr_no rfl rfl (less_b g12) rfl rfl ?_
       refine dr_no rfl rfl (less_b g12) rfl rfl ?_
       refine dr_no rfl rfl (less_b g12) rfl rfl ?_
       refine dr_no rfl rfl (less_b g12) rfl rfl ?_
       refine dr_ev rfl (ev_pickT (v := .raw _) (less_b g12) (lr _)) ?_
       refine dr_end (sq_nil ?_)
       refine aw_true (lr _) ?_
       refine aw_seq (aw_region ?_)
       refine asr (lr _) rfl ?_
       refine sq_nil (aw_ret ?_)
       exact retQ_pure (v := .raw _) rfl rfl (Less.eq (by rw [scOK_bad (i := k) (by omega) (by simp [scBad, *])]))
      ·
       have g12' := g12
       try simp only [qq] at g12'
       refine dr_yes rfl rfl (less_b g12) rfl (ev_fieldAddr fo84_4 (lr _)) ?_
       refine dr_yes rfl rfl (less_b g12) rfl (ev_load (lr _) rfl ty3 rfl) ?_
       refine dr_yes rfl rfl (less_b g12) rfl (ev_mv (v := .raw _) (lr _)) ?_
       refine dr_yes rfl rfl (less_b g12) rfl (ev_eql (lr _) (lr _)) ?_
       refine dr_ev rfl (ev_pickF (v := .raw _) (less_b g12) (lr _)) ?_
       refine dr_end (sq_nil ?_)
       refine aw_cond (lr _) (fun c13 => ?_) (fun c13 => ?_)
       ·
        have c13' := c13
        try simp only [qq] at c13'
        refine aw_seq (aw_region ?_)
        refine asr (lr _) rfl ?_
        refine sq_nil (aw_ret ?_)
        exact retQ_pure (v := .raw _) rfl rfl (Less.eq (by rw [scOK_bad (i := k) (by omega) (by simp [scBad, *])]))
       ·
        have c13' := c13
        try simp only [qq] at c13'
        refine aw_skip (aw_seq (aw_region ?_))
        refine sq_ev rfl (ev_fieldAddr fo84_3 (lr _)) ?_
        refine sq_ev rfl (ev_load (lr _) rfl ty4 rfl) ?_
        refine sq_nil ?_
        refine aw_cond (lr _) (fun c14 => ?_) (fun c14 => ?_)
        ·
         have c14' := c14
         try simp only [qq] at c14'
         refine aw_region ?_
         refine mvr (lr _) rfl ?_
         refine sq_ev rfl (ev_add (lr _) (lr _) (wr (by omega) (by omega))) ?_
         refine asr (lr _) rfl ?_
         refine sq_nil (aw_region ?_)
         refine mvr (lr _) rfl ?_
         refine sq_ev rfl (ev_add (lr _) (lr _) (wr (by omega) (by omega))) ?_
         refine asr (lr _) rfl ?_
         refine sq_nil ?_
         have hstep := loosies_take (l := p.scenes) (k := k) (by omega)
         have hgood : scBad p.scenes k (by omega) = false := by simp [scBad, *]
         exact ⟨⟨k + 1, by omega, fun i h hi => (by by_cases e : i = k; (subst e; exact hgood); exact hok i h (by omega))⟩, by simp only; omega, Sub.fin 1 ⟨less_int (by rw [hstep]; simp [*]), lr _, lr _, trivial⟩ rfl (by simp [slotsIn, objsIn, sget, keepS, AObj.inB, AV.inB, AV.inL, AV.inE, inE_map]) (by simp [slotsIn, objsIn, sget, keepS, AObj.inB, AV.inB, AV.inL, AV.inE, inE_map]) (by simp [he0])⟩
        ·
         have c14' := c14
         try simp only [qq] at c14'
         refine aw_skip (aw_region ?_)
         refine mvr (lr _) rfl ?_
         refine sq_ev rfl (ev_add (lr _) (lr _) (wr (by omega) (by omega))) ?_
         refine asr (lr _) rfl ?_
         refine sq_nil ?_
         have hstep := loosies_take (l := p.scenes) (k := k) (by omega)
         have hgood : scBad p.scenes k (by omega) = false := by simp [scBad, *]
         exact ⟨⟨k + 1, by omega, fun i h hi => (by by_cases e : i = k; (subst e; exact hgood); exact hok i h (by omega))⟩, by simp only; omega, Sub.fin 1 ⟨less_int (by rw [hstep]; simp [*]), lr _, lr _, trivial⟩ rfl (by simp [slotsIn, objsIn, sget, keepS, AObj.inB, AV.inB, AV.inL, AV.inE, inE_map]) (by simp [slotsIn, objsIn, sget, keepS, AObj.inB, AV.inB, AV.inL, AV.inE, inE_map]) (by simp [he0])⟩
 ·
  have c1' := c1
  try simp only [qq] at c1'
  refine aw_exit (aw_seq (aw_region ?_))
  refine mvr (lr _) rfl ?_
  refine sq_ev rfl (ev_leq (lr _) (lr _)) ?_
  refine asr (lr _) rfl ?_
  refine sq_nil (aw_ret ?_)
  exact retQ_pure (v := .raw _) rfl rfl (Less.eq (by rw [scOK_end hk c1' hok]))
set_option maxHeartbeats 1000000 in
theorem plan_pure (p : Pl) (hl : p.scenes.length ≤ 1000000) : APure Tryz.prog 24 [plan p] (B (PlOK p)) := by
 refine apure_of (rs := [.tmp 2]) Tryz.func24 rfl rfl (Nat.le_of_ble_eq_true rfl) (by simp [AV.pureL, AV.pureB, AV.pureE, pureE_map]) (rfl) fun e0 he0 => ?_
 refine aw_seq (aw_region ?_)
 refine sq_box rfl (lr _) rfl ?_
 refine asr (lr _) rfl ?_
 refine sq_nil (aw_seq (aw_region ?_))
 refine sq_ev rfl (ev_fieldAddr fo27_0 (lr _)) ?_
 refine sq_ev rfl (ev_load (lr _) rfl ty3 rfl) ?_
 refine sq_ev rfl (ev_call en89 (lr _) (in_pure _ _ _) ⟨lr _, lr _, lr _, trivial⟩) ?_
 refine mvr (lr _) rfl ?_
 refine sq_split 6 (lr _) (fun g1 => ?_) (fun g1 => ?_)
 ·
  have g1' := g1
  try simp only [qq] at g1'
  refine sq_yes rfl rfl (less_b g1) rfl (ev_fieldAddr fo27_1 (lr _)) ?_
  refine sq_yes rfl rfl (less_b g1) rfl (ev_index_box ar24 (lr _) (lr _) rfl (by decide)) ?_
  refine sq_yes rfl rfl (less_b g1) rfl (ev_load_agg (lr _) rfl ty23 rfl) ?_
  refine sq_yes rfl rfl (less_b g1) rfl (ev_call en90 (lr _) (window_pure _ _) ⟨lr _, trivial⟩) ?_
  refine sq_ev rfl (ev_pickT (v := .raw _) (less_b g1) (lr _)) ?_
  refine mvr (lr _) rfl ?_
  refine sq_split 12 (lr _) (fun g2 => ?_) (fun g2 => ?_)
  ·
   have g2' := g2
   try simp only [qq] at g2'
   refine sq_yes rfl rfl (less_b g2) rfl (ev_fieldAddr fo27_1 (lr _)) ?_
   refine sq_yes rfl rfl (less_b g2) rfl (ev_index_box ar24 (lr _) (lr _) rfl (by decide)) ?_
   refine sq_yes rfl rfl (less_b g2) rfl (ev_load_agg (lr _) rfl ty23 rfl) ?_
   refine sq_yes rfl rfl (less_b g2) rfl (ev_call en90 (lr _) (window_pure _ _) ⟨lr _, trivial⟩) ?_
   refine sq_ev rfl (ev_pickT (v := .raw _) (less_b g2) (lr _)) ?_
   refine mvr (lr _) rfl ?_
   refine sq_split 18 (lr _) (fun g3 => ?_) (fun g3 => ?_)
   ·
    have g3' := g3
    try simp only [qq] at g3'
    refine sq_yes rfl rfl (less_b g3) rfl (ev_fieldAddr fo27_2 (lr _)) ?_
    refine sq_yes rfl rfl (less_b g3) rfl (ev_load_agg (lr _) rfl ty23 rfl) ?_
    refine sq_yes rfl rfl (less_b g3) rfl (ev_call en90 (lr _) (window_pure _ _) ⟨lr _, trivial⟩) ?_
    refine sq_ev rfl (ev_pickT (v := .raw _) (less_b g3) (lr _)) ?_
    refine mvr (lr _) rfl ?_
    refine sq_split 23 (lr _) (fun g4 => ?_) (fun g4 => ?_)
    ·
     have g4' := g4
     try simp only [qq] at g4'
     refine sq_yes rfl rfl (less_b g4) rfl (ev_fieldAddr fo27_3 (lr _)) ?_
     refine sq_yes rfl rfl (less_b g4) rfl (ev_load (lr _) rfl ty25 rfl) ?_
     refine sq_yes rfl rfl (less_b g4) rfl (ev_len_map sl25 (lr _)) ?_
     refine sq_yes rfl rfl (less_b g4) rfl (ev_call en89 (lr _) (in_pure _ _ _) ⟨lr _, lr _, lr _, trivial⟩) ?_
     refine sq_ev rfl (ev_pickT (v := .raw _) (less_b g4) (lr _)) ?_
     refine mvr (lr _) rfl ?_
     refine sq_split 29 (lr _) (fun g5 => ?_) (fun g5 => ?_)
     ·
      have g5' := g5
      try simp only [qq] at g5'
      refine sq_yes rfl rfl (less_b g5) rfl (ev_load_agg (lr _) rfl ty27 rfl) ?_
      refine sq_yes rfl rfl (less_b g5) rfl (ev_call en91 (lr _) (scenes_pure _ hl) ⟨lr _, trivial⟩) ?_
      refine sq_ev rfl (ev_pickT (v := .raw _) (less_b g5) (lr _)) ?_
      refine asr (lr _) rfl ?_
      refine sq_nil (aw_ret ?_)
      exact retQ_pure (v := .raw _) rfl rfl (Less.eq (by simp [PlOK, *]))
     ·
      have g5' := g5
      try simp only [qq] at g5'
      refine sq_no rfl rfl (less_b g5) rfl rfl ?_
      refine sq_no rfl rfl (less_b g5) rfl rfl ?_
      refine sq_ev rfl (ev_pickF (v := .raw _) (less_b g5) (lr _)) ?_
      refine asr (lr _) rfl ?_
      refine sq_nil (aw_ret ?_)
      exact retQ_pure (v := .raw _) rfl rfl (Less.eq (by simp [PlOK, *]))
    ·
     have g4' := g4
     try simp only [qq] at g4'
     refine sq_no rfl rfl (less_b g4) rfl rfl ?_
     refine sq_no rfl rfl (less_b g4) rfl rfl ?_
     refine sq_no rfl rfl (less_b g4) rfl rfl ?_
     refine sq_no rfl rfl (less_b g4) rfl rfl ?_
     refine sq_ev rfl (ev_pickF (v := .raw _) (less_b g4) (lr _)) ?_
     refine mvr (lr _) rfl ?_
     refine sq_no rfl rfl (lr _) rfl rfl ?_
     refine sq_no rfl rfl (lr _) rfl rfl ?_
     refine pf rfl (lr _) (lr _) ?_
     refine asr (lr _) rfl ?_
     refine sq_nil (aw_ret ?_)
     exact retQ_pure (v := .raw _) rfl rfl (Less.eq (by simp [PlOK, *]))
   ·
    have g3' := g3
    try simp only [qq] at g3'
    refine sq_no rfl rfl (less_b g3) rfl rfl ?_
    refine sq_no rfl rfl (less_b g3) rfl rfl ?_
    refine sq_no rfl rfl (less_b g3) rfl rfl ?_
    refine sq_ev rfl (ev_pickF (v := .raw _) (less_b g3) (lr _)) ?_
    refine mvr (lr _) rfl ?_
    refine sq_no rfl rfl (lr _) rfl rfl ?_
    refine sq_no rfl rfl (lr _) rfl rfl ?_
    refine sq_no rfl rfl (lr _) rfl rfl ?_
    refine sq_no rfl rfl (lr _) rfl rfl ?_
    refine pf rfl (lr _) (lr _) ?_
    refine mvr (lr _) rfl ?_
    refine sq_no rfl rfl (lr _) rfl rfl ?_
    refine sq_no rfl rfl (lr _) rfl rfl ?_
    refine pf rfl (lr _) (lr _) ?_
    refine asr (lr _) rfl ?_
    refine sq_nil (aw_ret ?_)
    exact retQ_pure (v := .raw _) rfl rfl (Less.eq (by simp [PlOK, *]))
  ·
   have g2' := g2
   try simp only [qq] at g2'
   refine sq_no rfl rfl (less_b g2) rfl rfl ?_
   refine sq_no rfl rfl (less_b g2) rfl rfl ?_
   refine sq_no rfl rfl (less_b g2) rfl rfl ?_
   refine sq_no rfl rfl (less_b g2) rfl rfl ?_
   refine sq_ev rfl (ev_pickF (v := .raw _) (less_b g2) (lr _)) ?_
   refine mvr (lr _) rfl ?_
   refine sq_no rfl rfl (lr _) rfl rfl ?_
   refine sq_no rfl rfl (lr _) rfl rfl ?_
   refine sq_no rfl rfl (lr _) rfl rfl ?_
   refine pf rfl (lr _) (lr _) ?_
   refine mvr (lr _) rfl ?_
   refine sq_no rfl rfl (lr _) rfl rfl ?_
   refine sq_no rfl rfl (lr _) rfl rfl ?_
   refine sq_no rfl rfl (lr _) rfl rfl ?_
   refine sq_no rfl rfl (lr _) rfl rfl ?_
   refine pf rfl (lr _) (lr _) ?_
   refine mvr (lr _) rfl ?_
   refine sq_no rfl rfl (lr _) rfl rfl ?_
   refine sq_no rfl rfl (lr _) rfl rfl ?_
   refine pf rfl (lr _) (lr _) ?_
   refine asr (lr _) rfl ?_
   refine sq_nil (aw_ret ?_)
   exact retQ_pure (v := .raw _) rfl rfl (Less.eq (by simp [PlOK, *]))
 ·
  have g1' := g1
  try simp only [qq] at g1'
  refine sq_no rfl rfl (less_b g1) rfl rfl ?_
  refine sq_no rfl rfl (less_b g1) rfl rfl ?_
  refine sq_no rfl rfl (less_b g1) rfl rfl ?_
  refine sq_no rfl rfl (less_b g1) rfl rfl ?_
  refine sq_ev rfl (ev_pickF (v := .raw _) (less_b g1) (lr _)) ?_
  refine mvr (lr _) rfl ?_
  refine sq_no rfl rfl (lr _) rfl rfl ?_
  refine sq_no rfl rfl (lr _) rfl rfl ?_
  refine sq_no rfl rfl (lr _) rfl rfl ?_
  refine sq_no rfl rfl (lr _) rfl rfl ?_
  refine pf rfl (lr _) (lr _) ?_
  refine mvr (lr _) rfl ?_
  refine sq_no rfl rfl (lr _) rfl rfl ?_
  refine sq_no rfl rfl (lr _) rfl rfl ?_
  refine sq_no rfl rfl (lr _) rfl rfl ?_
  refine pf rfl (lr _) (lr _) ?_
  refine mvr (lr _) rfl ?_
  refine sq_no rfl rfl (lr _) rfl rfl ?_
  refine sq_no rfl rfl (lr _) rfl rfl ?_
  refine sq_no rfl rfl (lr _) rfl rfl ?_
  refine sq_no rfl rfl (lr _) rfl rfl ?_
  refine pf rfl (lr _) (lr _) ?_
  refine mvr (lr _) rfl ?_
  refine sq_no rfl rfl (lr _) rfl rfl ?_
  refine sq_no rfl rfl (lr _) rfl rfl ?_
  refine pf rfl (lr _) (lr _) ?_
  refine asr (lr _) rfl ?_
  refine sq_nil (aw_ret ?_)
  exact retQ_pure (v := .raw _) rfl rfl (Less.eq (by simp [PlOK, *]))
set_option maxHeartbeats 400000 in
theorem scene_pure (p : Pl) (n : Int) (hl : p.scenes.length ≤ 1000000) : APure Tryz.prog 35 [plan p, I n] (B (isSc p n)) := by
 refine apure_of (rs := [.tmp 4]) Tryz.func35 rfl rfl (Nat.le_of_ble_eq_true rfl) (by simp [AV.pureL, AV.pureB, AV.pureE, pureE_map]) (rfl) fun e0 he0 => ?_
 refine aw_seq (aw_region ?_)
 refine sq_box rfl (lr _) rfl ?_
 refine asr (lr _) rfl ?_
 refine sq_nil (aw_seq (aw_region ?_))
 refine mvr (lr _) rfl ?_
 refine sq_ev rfl (ev_fieldAddr fo27_3 (lr _)) ?_
 refine sq_ev rfl (ev_load (lr _) rfl ty25 rfl) ?_
 refine sq_ev rfl (ev_len_map sl25 (lr _)) ?_
 refine sq_ev rfl (ev_sub (lr _) (lr _) (wr (by omega) (by omega))) ?_
 refine sq_ev rfl (ev_call en89 (lr _) (in_pure _ _ _) ⟨lr _, lr _, lr _, trivial⟩) ?_
 refine asr (lr _) rfl ?_
 refine sq_nil (aw_ret ?_)
 exact retQ_pure (v := .raw _) rfl rfl (Less.eq (by simp [isSc]))
set_option maxHeartbeats 400000 in
theorem has_pure (l : List Int) (n : Int) (hl : l.length ≤ 1000000) : APure Tryz.prog 62 [ints l, I n] (B (has l n)) := by
 refine apure_of (rs := [.tmp 4]) Tryz.func62 rfl rfl (Nat.le_of_ble_eq_true rfl) (by simp [AV.pureL, AV.pureB, AV.pureE, pureE_map]) (rfl) fun e0 he0 => ?_
 refine aw_seq (aw_region ?_)
 refine asr (lr _) rfl ?_
 refine sq_nil (aw_seq (aw_seq (aw_region ?_)))
 refine asr (lr _) rfl ?_
 refine sq_nil (aw_block ?_)
 refine aw_loopk (ι := { k : Nat // k ≤ l.length ∧ ∀ j, (h : j < l.length) → j < k → l[j] ≠ n }) [0, 1] (fun i => [(5, I i.1)]) (fun H i => H) (fun i => l.length - i.1) (⟨0, Nat.zero_le _, by omega⟩) ⟨lr _, lr _, lr _, trivial⟩ rfl ?_
 rintro ⟨k, hk, hok⟩
 dsimp only [keepS, St.put, sget, slotsOf, List.map_cons, List.map_nil, List.cons_append, List.nil_append, List.length_cons, List.length_nil, Nat.reduceBEq, Nat.reduceAdd, cond_true, cond_false]
 refine aw_seq (aw_seq (aw_region ?_))
 refine mvr (lr _) rfl ?_
 refine mvs rfl (lr _) ?_
 refine sq_ev rfl (ev_len_map sl34 (lr _)) ?_
 refine sq_ev rfl (ev_lss (lr _) (lr _)) ?_
 refine sq_nil ?_
 refine aw_cond (lr _) (fun c1 => ?_) (fun c1 => ?_)
 ·
  have c1' := c1
  try simp only [qq] at c1'
  refine aw_skip (aw_seq (aw_block (aw_seq (aw_region ?_))))
  refine mvs rfl (lr _) ?_
  refine mvr (lr _) rfl ?_
  refine sq_ev rfl (ev_index_map sl34 (lr _) (lr _) rfl (by omega)) ?_
  refine sq_ev rfl (ev_load_i (lr _) ty3 rfl) ?_
  refine mvr (lr _) rfl ?_
  refine sq_ev rfl (ev_eql (lr _) (lr _)) ?_
  refine sq_nil ?_
  refine aw_cond (lr _) (fun c2 => ?_) (fun c2 => ?_)
  ·
   have c2' := c2
   try simp only [qq] at c2'
   refine aw_seq (aw_region ?_)
   refine asr (lr _) rfl ?_
   refine sq_nil (aw_ret ?_)
   exact retQ_pure (v := .raw _) rfl rfl (Less.eq (by rw [has_yes (k := k) (by omega) c2']))
  ·
   have c2' := c2
   try simp only [qq] at c2'
   refine aw_skip (aw_region ?_)
   refine mvr (lr _) rfl ?_
   refine sq_ev rfl (ev_add (lr _) (lr _) (wr (by omega) (by omega))) ?_
   refine asr (lr _) rfl ?_
   refine sq_nil ?_
   exact ⟨⟨k + 1, by omega, fun j h hj => (by by_cases e : j = k; (subst e; exact c2'); exact hok j h (by omega))⟩, by simp only; omega, Sub.slots ⟨lr _, lr _, lr _, trivial⟩⟩
 ·
  have c1' := c1
  try simp only [qq] at c1'
  refine aw_exit (aw_seq (aw_region ?_))
  refine asr (lr _) rfl ?_
  refine sq_nil (aw_ret ?_)
  exact retQ_pure (v := .raw _) rfl rfl (Less.eq (by rw [has_no c1' hok]))
set_option maxHeartbeats 1000000 in
theorem rising_pure (p : Pl) (l : List Int) (hp : p.scenes.length ≤ 1000000) (hl : l.length ≤ 1000000) : APure Tryz.prog 77 [plan p, ints l] (B (Ris p l)) := by
 refine apure_of (rs := [.tmp 4]) Tryz.func77 rfl rfl (Nat.le_of_ble_eq_true rfl) (by simp [AV.pureL, AV.pureB, AV.pureE, pureE_map]) (rfl) fun e0 he0 => ?_
 refine aw_seq (aw_region ?_)
 refine sq_box rfl (lr _) rfl ?_
 refine asr (lr _) rfl ?_
 refine sq_nil (aw_seq (aw_seq (aw_region ?_)))
 refine asr (lr _) rfl ?_
 refine sq_nil (aw_block ?_)
 refine aw_loopk (ι := { k : Nat // k ≤ l.length ∧ ∀ i, (h : i < l.length) → i < k → risBad p l i h = false }) [1, 2] (fun i => [(5, I i.1)]) (fun H i => H) (fun i => l.length - i.1) (⟨0, Nat.zero_le _, by omega⟩) ⟨lr _, lr _, lr _, trivial⟩ rfl ?_
 rintro ⟨k, hk, hok⟩
 dsimp only [keepS, St.put, sget, slotsOf, List.map_cons, List.map_nil, List.cons_append, List.nil_append, List.length_cons, List.length_nil, Nat.reduceBEq, Nat.reduceAdd, cond_true, cond_false]
 refine aw_seq (aw_seq (aw_region ?_))
 refine mvr (lr _) rfl ?_
 refine mvs rfl (lr _) ?_
 refine sq_ev rfl (ev_len_map sl34 (lr _)) ?_
 refine sq_ev rfl (ev_lss (lr _) (lr _)) ?_
 refine sq_nil ?_
 refine aw_cond (lr _) (fun c1 => ?_) (fun c1 => ?_)
 ·
  have c1' := c1
  try simp only [qq] at c1'
  refine aw_skip (aw_seq (aw_block (aw_seq ?_)))
  refine aw_draw 23 mo (by kernel_rfl) ?_
  refine dr_ev rfl (ev_load_agg (lr _) rfl ty27 rfl) ?_
  refine dr_ev rfl (ev_mv (v := .sl _ _) (lr _)) ?_
  refine dr_ev rfl (ev_mv (v := .raw _) (lr _)) ?_
  refine dr_ev rfl (ev_index_map sl34 (lr _) (lr _) rfl (by omega)) ?_
  refine dr_ev rfl (ev_load_i (lr _) ty3 rfl) ?_
  refine dr_ev rfl (ev_call en35 (lr _) (scene_pure _ _ hp) ⟨lr _, lr _, trivial⟩) ?_
  refine dr_ev rfl (ev_not (lr _)) ?_
  refine dr_ev rfl (ev_mv (v := .raw _) (lr _)) ?_
  refine dr_split 19 (lr _) (fun g2 => ?_) (fun g2 => ?_)
  ·
   have g2' := g2
   try simp only [qq] at g2'
   refine dr_no rfl rfl (less_b g2) rfl rfl ?_
   refine dr_no rfl rfl (less_b g2) rfl rfl ?_
   refine dr_no rfl rfl (less_b g2) rfl rfl ?_
   refine dr_no rfl rfl (lr _) rfl rfl ?_
   refine dr_no rfl rfl (lr _) rfl rfl ?_
   refine dr_no rfl rfl (lr _) rfl rfl ?_
   refine dr_no rfl rfl (lr _) rfl rfl ?_
   refine dr_no rfl rfl (lr _) rfl rfl ?_
   refine dr_no rfl rfl (lr _) rfl rfl ?_
   refine dr_no rfl rfl (lr _) rfl rfl ?_
   refine dr_no rfl rfl (lr _) rfl rfl ?_
   refine dr_no rfl rfl (lr _) rfl rfl ?_
   refine dr_no rfl rfl (lr _) rfl rfl ?_
   refine dr_no rfl rfl (less_b g2) rfl rfl ?_
   refine dr_ev rfl (ev_pickT (v := .raw _) (less_b g2) (lr _)) ?_
   refine dr_end (sq_nil ?_)
   refine aw_true (lr _) ?_
   refine aw_seq (aw_region ?_)
   refine asr (lr _) rfl ?_
   refine sq_nil (aw_ret ?_)
   exact retQ_pure (v := .raw _) rfl rfl (Less.eq (by rw [Ris, okAll_bad (i := k) (by omega) (by first | (simp [risBad, *]; done) | (simp_all [risBad]; done))]))
  ·
   have g2' := g2
   try simp only [qq] at g2'
   refine dr_yes rfl rfl (less_b g2) rfl (ev_mv (v := .raw _) (lr _)) ?_
   refine dr_yes rfl rfl (less_b g2) rfl (ev_gtr (lr _) (lr _)) ?_
   refine dr_yes rfl rfl (less_b g2) rfl (ev_mv (v := .raw _) (lr _)) ?_
   refine dr_split 22 (lr _) (fun g3 => ?_) (fun g3 => ?_)
   ·
    have g3' := g3
    try simp only [qq] at g3'
    have g3n : 0 < k := by omega
    refine dr_yes rfl rfl (less_b g3) rfl (ev_mv (v := .sl _ _) (lr _)) ?_
    refine dr_yes rfl rfl (less_b g3) rfl (ev_mv (v := .raw _) (lr _)) ?_
    refine dr_yes rfl rfl (less_b g3) rfl (ev_index_map sl34 (lr _) (lr _) rfl (by omega)) ?_
    refine dr_yes rfl rfl (less_b g3) rfl (ev_load_i (lr _) ty3 rfl) ?_
    refine dr_yes rfl rfl (less_b g3) rfl (ev_mv (v := .sl _ _) (lr _)) ?_
    refine dr_yes rfl rfl (less_b g3) rfl (ev_mv (v := .raw _) (lr _)) ?_
    refine dr_yes rfl rfl (less_b g3) rfl (ev_sub (lr _) (lr _) (wr (by omega) (by omega))) ?_
    refine dr_yes rfl rfl (less_b g3) rfl (ev_index_map sl34 (lr _) (lr _) (show ((k : Int) - 1) = ((k - 1 : Nat) : Int) by omega) (by omega)) ?_
    refine dr_yes rfl rfl (less_b g3) rfl (ev_load_i (lr _) ty3 rfl) ?_
    refine dr_yes rfl rfl (less_b g3) rfl (ev_leq (lr _) (lr _)) ?_
    refine dr_yes rfl rfl (less_b g2) rfl (ev_pickT (v := .raw _) (less_b g3) (lr _)) ?_
    refine dr_ev rfl (ev_pickF (v := .raw _) (less_b g2) (lr _)) ?_
    refine dr_end (sq_nil ?_)
    refine aw_cond (lr _) (fun c4 => ?_) (fun c4 => ?_)
    ·
     have c4' := c4
     try simp only [qq] at c4'
     refine aw_seq (aw_region ?_)
     refine asr (lr _) rfl ?_
     refine sq_nil (aw_ret ?_)
     exact retQ_pure (v := .raw _) rfl rfl (Less.eq (by rw [Ris, okAll_bad (i := k) (by omega) (by first | (simp [risBad, *]; done) | (simp_all [risBad]; done))]))
    ·
     have c4' := c4
     try simp only [qq] at c4'
     refine aw_skip (aw_region ?_)
     refine mvr (lr _) rfl ?_
     refine sq_ev rfl (ev_add (lr _) (lr _) (wr (by omega) (by omega))) ?_
     refine asr (lr _) rfl ?_
     refine sq_nil ?_
     have hgood : risBad p l k (by omega) = false := by first | (simp [risBad, *]; done) | (simp_all [risBad]; done)
     exact ⟨⟨k + 1, by omega, fun i h hi => (by by_cases e : i = k; (subst e; exact hgood); exact hok i h (by omega))⟩, by simp only; omega, Sub.fin 1 ⟨lr _, lr _, lr _, trivial⟩ rfl (by simp [slotsIn, objsIn, sget, keepS, AObj.inB, AV.inB, AV.inL, AV.inE, inE_map]) (by simp [slotsIn, objsIn, sget, keepS, AObj.inB, AV.inB, AV.inL, AV.inE, inE_map]) (by simp [he0])⟩
   ·
    have g3' := g3
    try simp only [qq] at g3'
    have g3n : ¬ (0 < k) := by omega
    refine dr_no rfl rfl (less_b g3) rfl rfl ?_
    refine dr_no rfl rfl (less_b g3) rfl rfl ?_
    refine dr_no rfl rfl (less_b g3) rfl rfl ?_
    refine dr_no rfl rfl (less_b g3) rfl rfl ?_
    refine dr_no rfl rfl (less_b g3) rfl rfl ?_
    refine dr_no rfl rfl (less_b g3) rfl rfl ?_
    refine dr_no rfl rfl (less_b g3) rfl rfl ?_
    refine dr_no rfl rfl (less_b g3) rfl rfl ?_
    refine dr_no rfl rfl (less_b g3) rfl rfl ?_
    refine dr_no rfl rfl (less_b g3) rfl rfl ?_
    refine dr_yes rfl rfl (less_b g2) rfl (ev_pickF (v := .raw _) (less_b g3) (lr _)) ?_
    refine dr_ev rfl (ev_pickF (v := .raw _) (less_b g2) (lr _)) ?_
    refine dr_end (sq_nil ?_)
    refine aw_false (lr _) ?_
    refine aw_skip (aw_region ?_)
    refine mvr (lr _) rfl ?_
    refine sq_ev rfl (ev_add (lr _) (lr _) (wr (by omega) (by omega))) ?_
    refine asr (lr _) rfl ?_
    refine sq_nil ?_
    have hgood : risBad p l k (by omega) = false := by first | (simp [risBad, *]; done) | (simp_all [risBad]; done)
    exact ⟨⟨k + 1, by omega, fun i h hi => (by by_cases e : i = k; (subst e; exact hgood); exact hok i h (by omega))⟩, by simp only; omega, Sub.fin 1 ⟨lr _, lr _, lr _, trivial⟩ rfl (by simp [slotsIn, objsIn, sget, keepS, AObj.inB, AV.inB, AV.inL, AV.inE, inE_map]) (by simp [slotsIn, objsIn, sget, keepS, AObj.inB, AV.inB, AV.inL, AV.inE, inE_map]) (by simp [he0])⟩
 ·
  have c1' := c1
  try simp only [qq] at c1'
  refine aw_exit (aw_seq (aw_region ?_))
  refine asr (lr _) rfl ?_
  refine sq_nil (aw_ret ?_)
  exact retQ_pure (v := .raw _) rfl rfl (Less.eq (by rw [Ris, okAll_end hk c1' hok]))
set_option maxHeartbeats 2000000 in
theorem choice_pure (p : Pl) (l : List Int) (hp : p.scenes.length ≤ 1000000) (hl : l.length ≤ 1000000) : APure Tryz.prog 78 [plan p, ints l] (B (isCh p l)) := by
 refine apure_of (rs := [.tmp 4]) Tryz.func78 rfl rfl (Nat.le_of_ble_eq_true rfl) (by simp [AV.pureL, AV.pureB, AV.pureE, pureE_map]) (rfl) fun e0 he0 => ?_
 refine aw_seq (aw_region ?_)
 refine sq_box rfl (lr _) rfl ?_
 refine asr (lr _) rfl ?_
 refine sq_nil (aw_seq (aw_seq (aw_region ?_)))
 refine asr (lr _) rfl ?_
 refine sq_nil (aw_block ?_)
 refine aw_loopk (ι := { k : Nat // k ≤ p.scenes.length ∧ ∀ i, (h : i < p.scenes.length) → i < k → chBad p l i h = false }) [1, 2] (fun i => [(5, I i.1)]) (fun H i => H) (fun i => p.scenes.length - i.1) (⟨0, Nat.zero_le _, by omega⟩) ⟨lr _, lr _, lr _, trivial⟩ rfl ?_
 rintro ⟨k, hk, hok⟩
 dsimp only [keepS, St.put, sget, slotsOf, List.map_cons, List.map_nil, List.cons_append, List.nil_append, List.length_cons, List.length_nil, Nat.reduceBEq, Nat.reduceAdd, cond_true, cond_false]
 refine aw_seq (aw_seq (aw_region ?_))
 refine mvr (lr _) rfl ?_
 refine sq_ev rfl (ev_fieldAddr fo27_3 (lr _)) ?_
 refine sq_ev rfl (ev_load (lr _) rfl ty25 rfl) ?_
 refine sq_ev rfl (ev_len_map sl25 (lr _)) ?_
 refine sq_ev rfl (ev_lss (lr _) (lr _)) ?_
 refine sq_nil ?_
 refine aw_cond (lr _) (fun c1 => ?_) (fun c1 => ?_)
 ·
  have c1' := c1
  try simp only [qq] at c1'
  refine aw_skip (aw_seq (aw_block (aw_seq (aw_region ?_))))
  refine sq_ev rfl (ev_fieldAddr fo27_3 (lr _)) ?_
  refine sq_ev rfl (ev_load (lr _) rfl ty25 rfl) ?_
  refine mvr (lr _) rfl ?_
  refine sq_ev rfl (ev_index_map sl25 (lr _) (lr _) rfl (by omega)) ?_
  refine sq_ev rfl (ev_load_agg_i (lr _) ty84 (Nat.le_of_ble_eq_true rfl)) ?_
  refine sq_alloc rfl z84 ?_
  refine sq_store rfl (lr _) (lr _) rfl rfl ty84 rfl rfl ?_
  refine sq_nil (aw_seq (aw_region ?_))
  refine mvs rfl (lr _) ?_
  refine mvr (lr _) rfl ?_
  refine sq_ev rfl (ev_call en62 (lr _) (has_pure _ _ hl) ⟨lr _, lr _, trivial⟩) ?_
  refine sq_ev rfl (ev_not (lr _)) ?_
  refine mvr (lr _) rfl ?_
  refine sq_split 23 (lr _) (fun g2 => ?_) (fun g2 => ?_)
  ·
   have g2' := g2
   try simp only [qq] at g2'
   refine sq_yes rfl rfl (less_b g2) rfl (ev_fieldAddr fo84_3 (lr _)) ?_
   refine sq_yes rfl rfl (less_b g2) rfl (ev_load (lr _) rfl ty4 rfl) ?_
   refine sq_yes rfl rfl (less_b g2) rfl (ev_not (lr _)) ?_
   refine sq_ev rfl (ev_pickT (v := .raw _) (less_b g2) (lr _)) ?_
   refine mvr (lr _) rfl ?_
   refine sq_split 28 (lr _) (fun g3 => ?_) (fun g3 => ?_)
   ·
    have g3' := g3
    try simp only [qq] at g3'
    refine sq_no rfl rfl (less_b g3) rfl rfl ?_
    refine sq_no rfl rfl (less_b g3) rfl rfl ?_
    refine sq_no rfl rfl (less_b g3) rfl rfl ?_
    refine sq_no rfl rfl (less_b g3) rfl rfl ?_
    refine sq_no rfl rfl (lr _) rfl rfl ?_
    refine sq_no rfl rfl (lr _) rfl rfl ?_
    refine sq_no rfl rfl (lr _) rfl rfl ?_
    refine sq_no rfl rfl (less_b g3) rfl rfl ?_
    refine sq_no rfl rfl (less_b g3) rfl rfl ?_
    refine sq_no rfl rfl (lr _) rfl rfl ?_
    refine sq_no rfl rfl (lr _) rfl rfl ?_
    refine sq_no rfl rfl (lr _) rfl rfl ?_
    refine sq_no rfl rfl (lr _) rfl rfl ?_
    refine sq_no rfl rfl (lr _) rfl rfl ?_
    refine sq_no rfl rfl (less_b g3) rfl rfl ?_
    refine sq_ev rfl (ev_pickT (v := .raw _) (less_b g3) (lr _)) ?_
    refine sq_nil ?_
    refine aw_true (lr _) ?_
    refine aw_seq (aw_region ?_)
    refine asr (lr _) rfl ?_
    refine sq_nil (aw_ret ?_)
    exact retQ_pure (v := .raw _) rfl rfl (Less.eq (by rw [isCh, okAll_bad (i := k) (by omega) (by first | (simp [chBad, *]; done) | (simp_all [chBad]; done))]))
   ·
    have g3' := g3
    try simp only [qq] at g3'
    refine sq_yes rfl rfl (less_b g3) rfl (ev_mv (v := .sl _ _) (lr _)) ?_
    refine sq_yes rfl rfl (less_b g3) rfl (ev_mv (v := .raw _) (lr _)) ?_
    refine sq_yes rfl rfl (less_b g3) rfl (ev_call en62 (lr _) (has_pure _ _ hl) ⟨lr _, lr _, trivial⟩) ?_
    refine sq_yes rfl rfl (less_b g3) rfl (ev_mv (v := .raw _) (lr _)) ?_
    refine sq_split 32 (lr _) (fun g4 => ?_) (fun g4 => ?_)
    ·
     have g4' := g4
     try simp only [qq] at g4'
     refine sq_yes rfl rfl (less_b g4) rfl (ev_fieldAddr fo84_4 (lr _)) ?_
     refine sq_yes rfl rfl (less_b g4) rfl (ev_load (lr _) rfl ty3 rfl) ?_
     refine sq_yes rfl rfl (less_b g4) rfl (ev_geq (lr _) (lr _)) ?_
     refine sq_yes rfl rfl (less_b g3) rfl (ev_pickT (v := .raw _) (less_b g4) (lr _)) ?_
     refine sq_yes rfl rfl (less_b g3) rfl (ev_mv (v := .raw _) (lr _)) ?_
     refine sq_split 37 (lr _) (fun g5 => ?_) (fun g5 => ?_)
     ·
      have g5' := g5
      try simp only [qq] at g5'
      refine sq_yes rfl rfl (less_b g5) rfl (ev_mv (v := .sl _ _) (lr _)) ?_
      refine sq_yes rfl rfl (less_b g5) rfl (ev_fieldAddr fo84_4 (lr _)) ?_
      refine sq_yes rfl rfl (less_b g5) rfl (ev_load (lr _) rfl ty3 rfl) ?_
      refine sq_yes rfl rfl (less_b g5) rfl (ev_call en62 (lr _) (has_pure _ _ hl) ⟨lr _, lr _, trivial⟩) ?_
      refine sq_yes rfl rfl (less_b g5) rfl (ev_not (lr _)) ?_
      refine sq_yes rfl rfl (less_b g3) rfl (ev_pickT (v := .raw _) (less_b g5) (lr _)) ?_
      refine sq_ev rfl (ev_pickF (v := .raw _) (less_b g3) (lr _)) ?_
      refine sq_nil ?_
      refine aw_cond (lr _) (fun c6 => ?_) (fun c6 => ?_)
      ·
       have c6' := c6
       try simp only [qq] at c6'
       refine aw_seq (aw_region ?_)
       refine asr (lr _) rfl ?_
       refine sq_nil (aw_ret ?_)
       exact retQ_pure (v := .raw _) rfl rfl (Less.eq (by rw [isCh, okAll_bad (i := k) (by omega) (by first | (simp [chBad, *]; done) | (simp_all [chBad]; done))]))
      ·
       have c6' := c6
       try simp only [qq] at c6'
       refine aw_skip (aw_region ?_)
       refine mvr (lr _) rfl ?_
       refine sq_ev rfl (ev_add (lr _) (lr _) (wr (by omega) (by omega))) ?_
       refine asr (lr _) rfl ?_
       refine sq_nil ?_
       have hgood : chBad p l k (by omega) = false := by first | (simp [chBad, *]; done) | (simp_all [chBad]; done)
       exact ⟨⟨k + 1, by omega, fun i h hi => (by by_cases e : i = k; (subst e; exact hgood); exact hok i h (by omega))⟩, by simp only; omega, Sub.fin 1 ⟨lr _, lr _, lr _, trivial⟩ rfl (by simp [slotsIn, objsIn, sget, keepS, AObj.inB, AV.inB, AV.inL, AV.inE, inE_map]) (by simp [slotsIn, objsIn, sget, keepS, AObj.inB, AV.inB, AV.inL, AV.inE, inE_map]) (by simp [he0])⟩
     ·
      have g5' := g5
      try simp only [qq] at g5'
      refine sq_no rfl rfl (less_b g5) rfl rfl ?_
      refine sq_no rfl rfl (less_b g5) rfl rfl ?_
      refine sq_no rfl rfl (less_b g5) rfl rfl ?_
      refine sq_no rfl rfl (less_b g5) rfl rfl ?_
      refine sq_no rfl rfl (less_b g5) rfl rfl ?_
      refine sq_yes rfl rfl (less_b g3) rfl (ev_pickF (v := .raw _) (less_b g5) (lr _)) ?_
      refine sq_ev rfl (ev_pickF (v := .raw _) (less_b g3) (lr _)) ?_
      refine sq_nil ?_
      refine aw_false (lr _) ?_
      refine aw_skip (aw_region ?_)
      refine mvr (lr _) rfl ?_
      refine sq_ev rfl (ev_add (lr _) (lr _) (wr (by omega) (by omega))) ?_
      refine asr (lr _) rfl ?_
      refine sq_nil ?_
      have hgood : chBad p l k (by omega) = false := by first | (simp [chBad, *]; done) | (simp_all [chBad]; done)
      exact ⟨⟨k + 1, by omega, fun i h hi => (by by_cases e : i = k; (subst e; exact hgood); exact hok i h (by omega))⟩, by simp only; omega, Sub.fin 1 ⟨lr _, lr _, lr _, trivial⟩ rfl (by simp [slotsIn, objsIn, sget, keepS, AObj.inB, AV.inB, AV.inL, AV.inE, inE_map]) (by simp [slotsIn, objsIn, sget, keepS, AObj.inB, AV.inB, AV.inL, AV.inE, inE_map]) (by simp [he0])⟩
    ·
     have g4' := g4
     try simp only [qq] at g4'
     refine sq_no rfl rfl (less_b g4) rfl rfl ?_
     refine sq_no rfl rfl (less_b g4) rfl rfl ?_
     refine sq_no rfl rfl (less_b g4) rfl rfl ?_
     refine sq_yes rfl rfl (less_b g3) rfl (ev_pickF (v := .raw _) (less_b g4) (lr _)) ?_
     refine sq_yes rfl rfl (less_b g3) rfl (ev_mv (v := .raw _) (lr _)) ?_
     refine sq_no rfl rfl (lr _) rfl rfl ?_
     refine sq_no rfl rfl (lr _) rfl rfl ?_
     refine sq_no rfl rfl (lr _) rfl rfl ?_
     refine sq_no rfl rfl (lr _) rfl rfl ?_
     refine sq_no rfl rfl (lr _) rfl rfl ?_
     refine sq_yes rfl rfl (less_b g3) rfl (ev_pickF (v := .raw _) (lr _) (lr _)) ?_
     refine sq_ev rfl (ev_pickF (v := .raw _) (less_b g3) (lr _)) ?_
     refine sq_nil ?_
     refine aw_false (lr _) ?_
     refine aw_skip (aw_region ?_)
     refine mvr (lr _) rfl ?_
     refine sq_ev rfl (ev_add (lr _) (lr _) (wr (by omega) (by omega))) ?_
     refine asr (lr _) rfl ?_
     refine sq_nil ?_
     have hgood : chBad p l k (by omega) = false := by first | (simp [chBad, *]; done) | (simp_all [chBad]; done)
     exact ⟨⟨k + 1, by omega, fun i h hi => (by by_cases e : i = k; (subst e; exact hgood); exact hok i h (by omega))⟩, by simp only; omega, Sub.fin 1 ⟨lr _, lr _, lr _, trivial⟩ rfl (by simp [slotsIn, objsIn, sget, keepS, AObj.inB, AV.inB, AV.inL, AV.inE, inE_map]) (by simp [slotsIn, objsIn, sget, keepS, AObj.inB, AV.inB, AV.inL, AV.inE, inE_map]) (by simp [he0])⟩
  ·
   have g2' := g2
   try simp only [qq] at g2'
   refine sq_no rfl rfl (less_b g2) rfl rfl ?_
   refine sq_no rfl rfl (less_b g2) rfl rfl ?_
   refine sq_no rfl rfl (less_b g2) rfl rfl ?_
   refine sq_ev rfl (ev_pickF (v := .raw _) (less_b g2) (lr _)) ?_
   refine mvr (lr _) rfl ?_
   refine ysl rfl rfl (lr _) rfl (lr _) ?_
   refine ymr rfl rfl (lr _) rfl (lr _) ?_
   refine sq_yes rfl rfl (lr _) rfl (ev_call en62 (lr _) (has_pure _ _ hl) ⟨lr _, lr _, trivial⟩) ?_
   refine ymr rfl rfl (lr _) rfl (lr _) ?_
   refine sq_split 32 (lr _) (fun g7 => ?_) (fun g7 => ?_)
   ·
    have g7' := g7
    try simp only [qq] at g7'
    refine sq_yes rfl rfl (less_b g7) rfl (ev_fieldAddr fo84_4 (lr _)) ?_
    refine sq_yes rfl rfl (less_b g7) rfl (ev_load (lr _) rfl ty3 rfl) ?_
    refine sq_yes rfl rfl (less_b g7) rfl (ev_geq (lr _) (lr _)) ?_
    refine sq_yes rfl rfl (lr _) rfl (ev_pickT (v := .raw _) (less_b g7) (lr _)) ?_
    refine ymr rfl rfl (lr _) rfl (lr _) ?_
    refine sq_split 37 (lr _) (fun g8 => ?_) (fun g8 => ?_)
    ·
     have g8' := g8
     try simp only [qq] at g8'
     refine sq_yes rfl rfl (less_b g8) rfl (ev_mv (v := .sl _ _) (lr _)) ?_
     refine sq_yes rfl rfl (less_b g8) rfl (ev_fieldAddr fo84_4 (lr _)) ?_
     refine sq_yes rfl rfl (less_b g8) rfl (ev_load (lr _) rfl ty3 rfl) ?_
     refine sq_yes rfl rfl (less_b g8) rfl (ev_call en62 (lr _) (has_pure _ _ hl) ⟨lr _, lr _, trivial⟩) ?_
     refine sq_yes rfl rfl (less_b g8) rfl (ev_not (lr _)) ?_
     refine sq_yes rfl rfl (lr _) rfl (ev_pickT (v := .raw _) (less_b g8) (lr _)) ?_
     refine pf rfl (lr _) (lr _) ?_
     refine sq_nil ?_
     refine aw_cond (lr _) (fun c9 => ?_) (fun c9 => ?_)
     ·
      have c9' := c9
      try simp only [qq] at c9'
      refine aw_seq (aw_region ?_)
      refine asr (lr _) rfl ?_
      refine sq_nil (aw_ret ?_)
      exact retQ_pure (v := .raw _) rfl rfl (Less.eq (by rw [isCh, okAll_bad (i := k) (by omega) (by first | (simp [chBad, *]; done) | (simp_all [chBad]; done))]))
     ·
      have c9' := c9
      try simp only [qq] at c9'
      refine aw_skip (aw_region ?_)
      refine mvr (lr _) rfl ?_
      refine sq_ev rfl (ev_add (lr _) (lr _) (wr (by omega) (by omega))) ?_
      refine asr (lr _) rfl ?_
      refine sq_nil ?_
      have hgood : chBad p l k (by omega) = false := by first | (simp [chBad, *]; done) | (simp_all [chBad]; done)
      exact ⟨⟨k + 1, by omega, fun i h hi => (by by_cases e : i = k; (subst e; exact hgood); exact hok i h (by omega))⟩, by simp only; omega, Sub.fin 1 ⟨lr _, lr _, lr _, trivial⟩ rfl (by simp [slotsIn, objsIn, sget, keepS, AObj.inB, AV.inB, AV.inL, AV.inE, inE_map]) (by simp [slotsIn, objsIn, sget, keepS, AObj.inB, AV.inB, AV.inL, AV.inE, inE_map]) (by simp [he0])⟩
    ·
     have g8' := g8
     try simp only [qq] at g8'
     refine sq_no rfl rfl (less_b g8) rfl rfl ?_
     refine sq_no rfl rfl (less_b g8) rfl rfl ?_
     refine sq_no rfl rfl (less_b g8) rfl rfl ?_
     refine sq_no rfl rfl (less_b g8) rfl rfl ?_
     refine sq_no rfl rfl (less_b g8) rfl rfl ?_
     refine sq_yes rfl rfl (lr _) rfl (ev_pickF (v := .raw _) (less_b g8) (lr _)) ?_
     refine pf rfl (lr _) (lr _) ?_
     refine sq_nil ?_
     refine aw_false (lr _) ?_
     refine aw_skip (aw_region ?_)
     refine mvr (lr _) rfl ?_
     refine sq_ev rfl (ev_add (lr _) (lr _) (wr (by omega) (by omega))) ?_
     refine asr (lr _) rfl ?_
     refine sq_nil ?_
     have hgood : chBad p l k (by omega) = false := by first | (simp [chBad, *]; done) | (simp_all [chBad]; done)
     exact ⟨⟨k + 1, by omega, fun i h hi => (by by_cases e : i = k; (subst e; exact hgood); exact hok i h (by omega))⟩, by simp only; omega, Sub.fin 1 ⟨lr _, lr _, lr _, trivial⟩ rfl (by simp [slotsIn, objsIn, sget, keepS, AObj.inB, AV.inB, AV.inL, AV.inE, inE_map]) (by simp [slotsIn, objsIn, sget, keepS, AObj.inB, AV.inB, AV.inL, AV.inE, inE_map]) (by simp [he0])⟩
   ·
    have g7' := g7
    try simp only [qq] at g7'
    refine sq_no rfl rfl (less_b g7) rfl rfl ?_
    refine sq_no rfl rfl (less_b g7) rfl rfl ?_
    refine sq_no rfl rfl (less_b g7) rfl rfl ?_
    refine sq_yes rfl rfl (lr _) rfl (ev_pickF (v := .raw _) (less_b g7) (lr _)) ?_
    refine ymr rfl rfl (lr _) rfl (lr _) ?_
    refine sq_no rfl rfl (lr _) rfl rfl ?_
    refine sq_no rfl rfl (lr _) rfl rfl ?_
    refine sq_no rfl rfl (lr _) rfl rfl ?_
    refine sq_no rfl rfl (lr _) rfl rfl ?_
    refine sq_no rfl rfl (lr _) rfl rfl ?_
    refine sq_yes rfl rfl (lr _) rfl (ev_pickF (v := .raw _) (lr _) (lr _)) ?_
    refine pf rfl (lr _) (lr _) ?_
    refine sq_nil ?_
    refine aw_false (lr _) ?_
    refine aw_skip (aw_region ?_)
    refine mvr (lr _) rfl ?_
    refine sq_ev rfl (ev_add (lr _) (lr _) (wr (by omega) (by omega))) ?_
    refine asr (lr _) rfl ?_
    refine sq_nil ?_
    have hgood : chBad p l k (by omega) = false := by first | (simp [chBad, *]; done) | (simp_all [chBad]; done)
    exact ⟨⟨k + 1, by omega, fun i h hi => (by by_cases e : i = k; (subst e; exact hgood); exact hok i h (by omega))⟩, by simp only; omega, Sub.fin 1 ⟨lr _, lr _, lr _, trivial⟩ rfl (by simp [slotsIn, objsIn, sget, keepS, AObj.inB, AV.inB, AV.inL, AV.inE, inE_map]) (by simp [slotsIn, objsIn, sget, keepS, AObj.inB, AV.inB, AV.inL, AV.inE, inE_map]) (by simp [he0])⟩
 ·
  have c1' := c1
  try simp only [qq] at c1'
  refine aw_exit (aw_seq (aw_region ?_))
  refine asr (lr _) rfl ?_
  refine sq_nil (aw_ret ?_)
  exact retQ_pure (v := .raw _) rfl rfl (Less.eq (by rw [isCh, okAll_end hk c1' hok]))
end Go.Proofs.YtjghdbdiejaacaaGreatDoor
namespace Go.Proofs.YtjghdbdiejaacaaGreatDoor
open Go Go.Ab Ni
set_option maxHeartbeats 400000 in
theorem within_pure (n a b : Int) : APure Tryz.prog 111 [I n, .agg [I a, I b]] (B (inn n a b)) := by
 refine apure_of (rs := [.tmp 4]) Tryz.func111 rfl rfl (Nat.le_of_ble_eq_true rfl) (by simp [AV.pureL, AV.pureB, AV.pureE, pureE_map]) (rfl) fun e0 he0 => ?_
 refine aw_seq (aw_region ?_)
 refine sq_box rfl (lr _) rfl ?_
 refine asr (lr _) rfl ?_
 refine sq_nil (aw_seq (aw_region ?_))
 refine mvr (lr _) rfl ?_
 refine sq_ev rfl (ev_fieldAddr fo23_0 (lr _)) ?_
 refine sq_ev rfl (ev_load (lr _) rfl ty3 rfl) ?_
 refine sq_ev rfl (ev_fieldAddr fo23_1 (lr _)) ?_
 refine sq_ev rfl (ev_load (lr _) rfl ty3 rfl) ?_
 refine sq_ev rfl (ev_call en89 (lr _) (in_pure _ _ _) ⟨lr _, lr _, lr _, trivial⟩) ?_
 refine asr (lr _) rfl ?_
 refine sq_nil (aw_ret ?_)
 exact retQ_pure (v := .raw _) rfl rfl (Less.eq (by simp))
end Go.Proofs.YtjghdbdiejaacaaGreatDoor
namespace Go.Proofs.YtjghdbdiejaacaaGreatDoor
open Go Go.Ab Ni
theorem en111 : Ent Tryz.prog 111 := Ent.of Tryz.func111 (by kernel_rfl) rfl
end Go.Proofs.YtjghdbdiejaacaaGreatDoor
namespace Go.Proofs.YtjghdbdiejaacaaGreatDoor
open Go Go.Ab Ni
theorem en78 : Ent Tryz.prog 78 := Ent.of Tryz.func78 (by kernel_rfl) rfl
end Go.Proofs.YtjghdbdiejaacaaGreatDoor
namespace Go.Proofs.YtjghdbdiejaacaaGreatDoor
open Go Go.Ab Ni
section
variable {r : Option Nat} {H : List AObj} {ρ : Operand → AV} {d : Option Tmp} {t : TypeId} {p : String} {af : Array Edge} {g : Option (Nat × Bool)} {x y : Operand} {yt : TypeId} {a b c e : Int}
end
set_option maxHeartbeats 400000 in
theorem rnarrow0_pure (p : Pl) (a b : Int) : APure Tryz.prog 40 [plan p, I 0, .agg [I a, I b]] (plan (narP p 0 a b)) := by
 refine apure_of (rs := [.cell 6 27]) Tryz.func40 rfl rfl (Nat.le_of_ble_eq_true rfl) (by simp [AV.pureL, AV.pureB, AV.pureE, pureE_map]) (by simp [AV.pureL, AV.pureB, AV.pureE, pureE_map]) fun e0 he0 => ?_
 refine aw_seq (aw_region ?_)
 refine sq_box rfl (lr _) rfl ?_
 refine sq_box rfl (lr _) rfl ?_
 refine sq_alloc rfl z27 ?_
 refine sq_nil (aw_seq (aw_seq (aw_region ?_)))
 refine mvr (lr _) rfl ?_
 refine sq_ev rfl (ev_eql (lr _) (lr _)) ?_
 refine sq_nil ?_
 refine aw_cond (lr _) (fun c1 => ?_) (fun c1 => ?_)
 ·
  have c1' := c1
  try simp only [qq] at c1'
  cases c1
 ·
  have c1' := c1
  try simp only [qq] at c1'
  refine aw_region ?_
  refine mvr (lr _) rfl ?_
  refine sq_ev rfl (ev_load_agg (lr _) rfl ty23 rfl) ?_
  refine sq_ev rfl (ev_fieldAddr fo27_1 (lr _)) ?_
  refine sq_ev rfl (ev_index_box (k := 0) ar24 (lr _) (lr _) rfl (by decide)) ?_
  refine sq_store rfl (lr _) (lr _) rfl rfl ty23 rfl rfl ?_
  refine sq_nil (aw_seq (aw_region ?_))
  refine sq_ev rfl (ev_load_agg (lr _) rfl ty27 rfl) ?_
  refine sq_store rfl (lr _) (lr _) rfl rfl ty27 rfl rfl ?_
  refine sq_nil (aw_ret ?_)
  exact retQ_res (vs := [.agg _]) rfl rfl ⟨resVar_cell rfl rfl ty27 rfl, trivial⟩ (lr _)
set_option maxHeartbeats 400000 in
theorem rnarrow1_pure (p : Pl) (a b : Int) : APure Tryz.prog 40 [plan p, I 1, .agg [I a, I b]] (plan (narP p 1 a b)) := by
 refine apure_of (rs := [.cell 6 27]) Tryz.func40 rfl rfl (Nat.le_of_ble_eq_true rfl) (by simp [AV.pureL, AV.pureB, AV.pureE, pureE_map]) (by simp [AV.pureL, AV.pureB, AV.pureE, pureE_map]) fun e0 he0 => ?_
 refine aw_seq (aw_region ?_)
 refine sq_box rfl (lr _) rfl ?_
 refine sq_box rfl (lr _) rfl ?_
 refine sq_alloc rfl z27 ?_
 refine sq_nil (aw_seq (aw_seq (aw_region ?_)))
 refine mvr (lr _) rfl ?_
 refine sq_ev rfl (ev_eql (lr _) (lr _)) ?_
 refine sq_nil ?_
 refine aw_cond (lr _) (fun c1 => ?_) (fun c1 => ?_)
 ·
  have c1' := c1
  try simp only [qq] at c1'
  cases c1
 ·
  have c1' := c1
  try simp only [qq] at c1'
  refine aw_region ?_
  refine mvr (lr _) rfl ?_
  refine sq_ev rfl (ev_load_agg (lr _) rfl ty23 rfl) ?_
  refine sq_ev rfl (ev_fieldAddr fo27_1 (lr _)) ?_
  refine sq_ev rfl (ev_index_box (k := 1) ar24 (lr _) (lr _) rfl (by decide)) ?_
  refine sq_store rfl (lr _) (lr _) rfl rfl ty23 rfl rfl ?_
  refine sq_nil (aw_seq (aw_region ?_))
  refine sq_ev rfl (ev_load_agg (lr _) rfl ty27 rfl) ?_
  refine sq_store rfl (lr _) (lr _) rfl rfl ty27 rfl rfl ?_
  refine sq_nil (aw_ret ?_)
  exact retQ_res (vs := [.agg _]) rfl rfl ⟨resVar_cell rfl rfl ty27 rfl, trivial⟩ (lr _)
set_option maxHeartbeats 400000 in
theorem rshort_pure (p : Pl) : APure Tryz.prog 20 [plan p] (B (decide (p.scenes.length ≤ 12))) := by
 refine apure_of (rs := [.tmp 2]) Tryz.func20 rfl rfl (Nat.le_of_ble_eq_true rfl) (by simp [AV.pureL, AV.pureB, AV.pureE, pureE_map]) (rfl) fun e0 he0 => ?_
 refine aw_seq (aw_region ?_)
 refine sq_box rfl (lr _) rfl ?_
 refine asr (lr _) rfl ?_
 refine sq_nil (aw_seq (aw_region ?_))
 refine sq_ev rfl (ev_fieldAddr fo27_3 (lr _)) ?_
 refine sq_ev rfl (ev_load (lr _) rfl ty25 rfl) ?_
 refine sq_ev rfl (ev_len_map sl25 (lr _)) ?_
 refine sq_ev rfl (ev_leq (lr _) (lr _)) ?_
 refine asr (lr _) rfl ?_
 refine sq_nil (aw_ret ?_)
 exact retQ_pure (v := .raw _) rfl rfl (Less.eq (by simp; omega))
end Go.Proofs.YtjghdbdiejaacaaGreatDoor
namespace Go.Proofs.YtjghdbdiejaacaaGreatDoor
open Go Go.Ab Ni
theorem en20 : Ent Tryz.prog 20 := Ent.of Tryz.func20 (by kernel_rfl) rfl
theorem en21 : Ent Tryz.prog 21 := Ent.of Tryz.func21 (by kernel_rfl) rfl
theorem en24 : Ent Tryz.prog 24 := Ent.of Tryz.func24 (by kernel_rfl) rfl
theorem short_no {p : Pl} (h : ¬ p.scenes.length ≤ 12) : APure Tryz.prog 20 [plan p] (B false) := by have := rshort_pure p; simpa [h] using this
theorem short_yes {p : Pl} (h : p.scenes.length ≤ 12) : APure Tryz.prog 20 [plan p] (B true) := by have := rshort_pure p; simpa [h] using this
theorem plan_no {p : Pl} (hs : p.scenes.length ≤ 12) (h : PlOK p = false) : APure Tryz.prog 24 [plan p] (B false) := by have := plan_pure p (by omega); rwa [h] at this
theorem plan_yes {p : Pl} (hs : p.scenes.length ≤ 12) (h : PlOK p = true) : APure Tryz.prog 24 [plan p] (B true) := by have := plan_pure p (by omega); rwa [h] at this
theorem ch_yes {p : Pl} (hs : p.scenes.length ≤ 12) (h : PlOK p = true) : APure Tryz.prog 22 [plan p] (.tup [natss (choicesC p), I 0]) := by have := nChoices_pure p (by omega); rwa [if_pos h] at this
end Go.Proofs.YtjghdbdiejaacaaGreatDoor
namespace Go.Proofs.YtjghdbdiejaacaaGreatDoor
open Go Go.Ab Ni
section
variable {r : Option Nat} {H : List AObj} {ρ : Operand → AV} {d : Option Tmp} {t : TypeId} {p : String} {af : Array Edge} {g : Option (Nat × Bool)} {x y : Operand} {yt : TypeId}
end
theorem ok_len {p : Pl} (h : PlOK p = true) : p.scenes.length ≤ 10 := by
  unfold PlOK at h
  simp only [Bool.and_eq_true, decide_eq_true_eq, inn] at h
  omega
end Go.Proofs.YtjghdbdiejaacaaGreatDoor
namespace Go.Proofs.YtjghdbdiejaacaaGreatDoor
open Go Go.Ab Ni
theorem en45 : Ent Tryz.prog 45 := Ent.of Tryz.func45 (by kernel_rfl) rfl
theorem en47 : Ent Tryz.prog 47 := Ent.of Tryz.func47 (by kernel_rfl) rfl
theorem en77 : Ent Tryz.prog 77 := Ent.of Tryz.func77 (by kernel_rfl) rfl
set_option maxHeartbeats 400000 in
theorem rslim_pure (l : List Int) : APure Tryz.prog 45 [ints l] (B (decide (l.length ≤ 12))) := by
 refine apure_of (rs := [.tmp 2]) Tryz.func45 rfl rfl (Nat.le_of_ble_eq_true rfl) (by simp [AV.pureL, AV.pureB, AV.pureE, pureE_map]) (rfl) fun e0 he0 => ?_
 refine aw_seq (aw_region ?_)
 refine asr (lr _) rfl ?_
 refine sq_nil (aw_seq (aw_region ?_))
 refine mvs rfl (lr _) ?_
 refine sq_ev rfl (ev_len_map sl34 (lr _)) ?_
 refine sq_ev rfl (ev_leq (lr _) (lr _)) ?_
 refine asr (lr _) rfl ?_
 refine sq_nil (aw_ret ?_)
 exact retQ_pure (v := .raw _) rfl rfl (Less.eq (by simp; omega))
set_option maxHeartbeats 400000 in
theorem rchoice_pure (p : Pl) (l : List Int) (hp : p.scenes.length ≤ 1000000) (hl : l.length ≤ 1000000) : APure Tryz.prog 47 [plan p, ints l] (B (Ris p l && isCh p l)) := by
 refine apure_of (rs := [.tmp 4]) Tryz.func47 rfl rfl (Nat.le_of_ble_eq_true rfl) (by simp [AV.pureL, AV.pureB, AV.pureE, pureE_map]) (rfl) fun e0 he0 => ?_
 refine aw_seq (aw_region ?_)
 refine sq_box rfl (lr _) rfl ?_
 refine asr (lr _) rfl ?_
 refine sq_nil (aw_seq (aw_region ?_))
 refine sq_ev rfl (ev_load_agg (lr _) rfl ty27 rfl) ?_
 refine mvs rfl (lr _) ?_
 refine sq_ev rfl (ev_call en77 (lr _) (rising_pure p l hp hl) ⟨lr _, lr _, trivial⟩) ?_
 refine mvr (lr _) rfl ?_
 refine sq_split 8 (lr _) (fun g1 => ?_) (fun g1 => ?_)
 ·
  have g1' := g1
  try simp only [qq] at g1'
  refine sq_yes rfl rfl (less_b g1) rfl (ev_load_agg (lr _) rfl ty27 rfl) ?_
  refine sq_yes rfl rfl (less_b g1) rfl (ev_mv (v := .sl _ _) (lr _)) ?_
  refine sq_yes rfl rfl (less_b g1) rfl (ev_call en78 (lr _) (choice_pure p l hp hl) ⟨lr _, lr _, trivial⟩) ?_
  refine sq_ev rfl (ev_pickT (v := .raw _) (less_b g1) (lr _)) ?_
  refine asr (lr _) rfl ?_
  refine sq_nil (aw_ret ?_)
  exact retQ_pure (v := .raw _) rfl rfl (Less.eq (by simp [*]))
 ·
  have g1' := g1
  try simp only [qq] at g1'
  refine sq_no rfl rfl (less_b g1) rfl rfl ?_
  refine sq_no rfl rfl (less_b g1) rfl rfl ?_
  refine sq_no rfl rfl (less_b g1) rfl rfl ?_
  refine sq_ev rfl (ev_pickF (v := .raw _) (less_b g1) (lr _)) ?_
  refine asr (lr _) rfl ?_
  refine sq_nil (aw_ret ?_)
  exact retQ_pure (v := .raw _) rfl rfl (Less.eq (by simp [*]))
end Go.Proofs.YtjghdbdiejaacaaGreatDoor
namespace Go.Proofs.YtjghdbdiejaacaaGreatDoor
open Go Go.Ab Ni
theorem en55 : Ent Tryz.prog 55 := Ent.of Tryz.func55 (by kernel_rfl) rfl
def canAV (p : Pl) (l : List Int) : AV := if chosenB p l = true then .tup [B (canP p (dn l)), I 0] else .tup [B false, I 2]
theorem canAV_pure (p : Pl) (l : List Int) : (canAV p l).pureB = true := by unfold canAV; split <;> rfl
set_option maxHeartbeats 1000000 in
theorem nCan_pure (p : Pl) (l : List Int) (hp : p.scenes.length ≤ 1000000) (hl : l.length ≤ 1000000) : APure Tryz.prog 55 [plan p, ints l] (canAV p l) := by
 refine apure_of (rs := [.tmp 4, .tmp 5]) Tryz.func55 rfl rfl (Nat.le_of_ble_eq_true rfl) (by simp [AV.pureL, AV.pureB, AV.pureE, pureE_map]) (canAV_pure p l) fun e0 he0 => ?_
 refine aw_seq (aw_region ?_)
 refine sq_box rfl (lr _) rfl ?_
 refine asr (lr _) rfl ?_
 refine asr (lr _) rfl ?_
 refine sq_nil (aw_seq (aw_region ?_))
 refine sq_ev rfl (ev_load_agg (lr _) rfl ty27 rfl) ?_
 refine mvs rfl (lr _) ?_
 refine sq_ev rfl (ev_call en107 (lr _) (nchosen_pure p l hp hl) ⟨lr _, lr _, trivial⟩) ?_
 refine sq_ev rfl (ev_mv (v := .tup _) (lr _)) ?_
 refine xtr rfl (lr _) rfl ?_
 refine xtr rfl (lr _) rfl ?_
 refine sq_alloc rfl z110 ?_
 refine sq_store rfl (lr _) (lr _) rfl rfl ty110 rfl rfl ?_
 refine asr (lr _) rfl ?_
 refine sq_nil (aw_seq (aw_seq (aw_region ?_)))
 refine mvr (lr _) rfl ?_
 refine sq_ev rfl (ev_not (lr _)) ?_
 refine sq_nil ?_
 refine aw_cond (lr _) (fun c1 => ?_) (fun c1 => ?_)
 ·
  have c1' := c1
  try simp only [qq] at c1'
  refine aw_seq (aw_region ?_)
  refine asr (lr _) rfl ?_
  refine asr (lr _) rfl ?_
  refine sq_nil (aw_ret ?_)
  exact retQ_pure (v := .tup [.raw _, .raw _]) rfl rfl (Less.eq (by simp [canAV, c1']))
 ·
  have c1' := c1
  try simp only [qq] at c1'
  obtain ⟨l', rfl, cv, gp, wp⟩ := chosen_up c1'
  refine aw_skip (aw_seq (aw_region ?_))
  refine sq_ev rfl (ev_load_agg (lr _) rfl ty110 rfl) ?_
  refine sq_ev rfl (ev_call en88 (lr _) (ncan_pure p l' gp cv) ⟨Less.eq (playedI_up p l'), trivial⟩) ?_
  refine asr (lr _) rfl ?_
  refine asr (lr _) rfl ?_
  refine sq_nil (aw_ret ?_)
  exact retQ_pure (v := .tup [.raw _, .raw _]) rfl rfl (Less.eq (by simp [canAV, c1', dn_up]))
end Go.Proofs.YtjghdbdiejaacaaGreatDoor
namespace Go.Proofs.YtjghdbdiejaacaaGreatDoor
open Go Go.Ab Ni
theorem slim_no {l : List Int} (h : ¬ l.length ≤ 12) : APure Tryz.prog 45 [ints l] (B false) := by have := rslim_pure l; simpa [h] using this
theorem slim_yes {l : List Int} (h : l.length ≤ 12) : APure Tryz.prog 45 [ints l] (B true) := by have := rslim_pure l; simpa [h] using this
theorem ints_up (l : List Nat) : ints (up l) = nats l := by simp only [ints, eup]
theorem slim_yesN {l : List Nat} (h : l.length ≤ 12) : APure Tryz.prog 45 [nats l] (B true) := by have := slim_yes (l := up l) (by simpa [up] using h); rwa [ints_up] at this
theorem cho_no {p : Pl} {l : List Int} (hs : p.scenes.length ≤ 12) (hl : l.length ≤ 12) (h : (Ris p l && isCh p l) = false) : APure Tryz.prog 47 [plan p, ints l] (B false) := by have := rchoice_pure p l (by omega) (by omega); rwa [h] at this
theorem cho_yesN {p : Pl} {l : List Nat} (hs : p.scenes.length ≤ 12) (hl : l.length ≤ 12) (h : (Ris p (up l) && isCh p (up l)) = true) : APure Tryz.prog 47 [plan p, nats l] (B true) := by have := rchoice_pure p (up l) (by omega) (by simp [up]; omega); rwa [h, ints_up] at this
end Go.Proofs.YtjghdbdiejaacaaGreatDoor
namespace Go.Proofs.YtjghdbdiejaacaaGreatDoor
open Go Go.Ab Ni
theorem cn_yes {p : Pl} {l : List Nat} (hs : p.scenes.length ≤ 12) (hl : l.length ≤ 12) (hc : chosenB p (up l) = true) : APure Tryz.prog 55 [plan p, nats l] (.tup [B (canP p l), I 0]) := by
  have := nCan_pure p (up l) (by omega) (by simp [up]; omega); unfold canAV at this; rwa [if_pos hc, ints_up, dn_up] at this
end Go.Proofs.YtjghdbdiejaacaaGreatDoor
namespace Go.Proofs.YtjghdbdiejaacaaGreatDoor
open Go Go.Ab Ni
theorem en38 : Ent Tryz.prog 38 := Ent.of Tryz.func38 (by kernel_rfl) rfl
theorem rnar_pure (p : Pl) (k : Nat) (hk : k < 3) (a b : Int) : APure Tryz.prog 40 [plan p, I k, .agg [I a, I b]] (plan (narP p k a b)) := by
  rcases k with _ | _ | _ | k
  · exact rnarrow0_pure p a b
  · exact rnarrow1_pure p a b
  · exact rnarrow2_pure p a b
  · omega
theorem nar_ok {p : Pl} (ok : PlOK p = true) (k : Nat) {a b : Int} (h : wnd a b = true) : PlOK (narP p k a b) = true := by
  unfold PlOK at ok ⊢
  simp only [Bool.and_eq_true] at ok ⊢
  obtain ⟨⟨⟨⟨⟨h1, h2⟩, h3⟩, h4⟩, h5⟩, h6⟩ := ok
  unfold narP
  split
  · exact ⟨⟨⟨⟨⟨h1, h⟩, h3⟩, h4⟩, h5⟩, h6⟩
  · split
    · exact ⟨⟨⟨⟨⟨h1, h2⟩, h⟩, h4⟩, h5⟩, h6⟩
    · exact ⟨⟨⟨⟨⟨h1, h2⟩, h3⟩, h⟩, h5⟩, h6⟩
theorem nar_all (p : Pl) (k : Nat) (a b : Int) : allC (narP p k a b) = allC p := by
  unfold narP; split
  · rfl
  · split <;> rfl
theorem choices_iff {p : Pl} (gp : GP p) (wp : WP p) {l : List Nat} : l ∈ choicesC p ↔ l ∈ allC p ∧ ∃ h, FitH p l h := by
  unfold choicesC
  rw [List.mem_filter]
  constructor
  · rintro ⟨h1, h2⟩
    obtain ⟨a, b, c, f⟩ := (can_fit wp (allC_mem gp l h1)).1 h2
    exact ⟨h1, (a, b, c), f⟩
  · rintro ⟨h1, h, f⟩
    exact ⟨h1, (can_fit wp (allC_mem gp l h1)).2 ⟨_, _, _, f⟩⟩
theorem poss_iff {p : Pl} (gp : GP p) (wp : WP p) : 0 < (choicesC p).length ↔ ∃ l, l ∈ allC p ∧ ∃ h, FitH p l h := by
  rw [List.length_pos_iff_exists_mem]
  constructor
  · rintro ⟨l, hl⟩; exact ⟨l, (choices_iff gp wp).1 hl⟩
  · rintro ⟨l, hl⟩; exact ⟨l, (choices_iff gp wp).2 hl⟩
theorem win_ok {p : Pl} (ok : PlOK p = true) {k : Nat} (hk : k < 3) {a b : Int} (h1 : wl p k ≤ a) (h2 : a ≤ b) (h3 : b ≤ wh p k) : wnd a b = true := by
  have key : wnd (wl p k) (wh p k) = true := by
    unfold PlOK at ok
    simp only [Bool.and_eq_true] at ok
    rcases k with _ | _ | _ | k
    · exact ok.1.1.1.1.2
    · exact ok.1.1.1.2
    · exact ok.1.1.2
    · omega
  simp only [wnd, inn, Bool.and_eq_true, decide_eq_true_eq] at key ⊢
  omega
set_option maxHeartbeats 4000000 in
theorem rposs_yes {p : Pl} (hs : p.scenes.length ≤ 12) (hk : PlOK p = true) : APure Tryz.prog 38 [plan p] (.tup [B (decide (0 < (choicesC p).length)), B true]) := by
 refine apure_of (rs := [.tmp 2, .tmp 3]) Tryz.func38 rfl rfl (Nat.le_of_ble_eq_true rfl) (by simp [AV.pureL, AV.pureB, AV.pureE, pureE_map]) (rfl) fun e0 he0 => ?_
 refine aw_seq (aw_region ?_)
 refine sq_box rfl (lr _) rfl ?_
 refine asr (lr _) rfl ?_
 refine asr (lr _) rfl ?_
 refine sq_nil (aw_seq (aw_region ?_))
 refine sq_ev rfl (ev_load_agg (lr _) rfl ty27 rfl) ?_
 refine sq_ev rfl (ev_call en22 (lr _) (ch_yes hs hk) ⟨lr _, trivial⟩) ?_
 refine sq_ev rfl (ev_mv (v := .tup _) (lr _)) ?_
 refine xtr rfl (lr _) rfl ?_
 refine xtr rfl (lr _) rfl ?_
 refine ass rfl (lr _) ?_
 refine asr (lr _) rfl ?_
 refine sq_nil (aw_seq (aw_region ?_))
 refine mvs rfl (lr _) ?_
 refine sq_ev rfl (ev_len_map sl30 (lr _)) ?_
 refine sq_ev rfl (ev_gtr (lr _) (lr _)) ?_
 refine mvr (lr _) rfl ?_
 refine sq_ev rfl (ev_eql (lr _) (lr _)) ?_
 refine asr (lr _) rfl ?_
 refine asr (lr _) rfl ?_
 refine sq_nil (aw_ret ?_)
 exact retQ_pure (v := .tup [.raw _, .raw _]) rfl rfl (Less.eq (by simp))
theorem poss_val {p : Pl} {b : Bool} (hs : p.scenes.length ≤ 12) (hk : PlOK p = true) (h : decide (0 < (choicesC p).length) = b) : APure Tryz.prog 38 [plan p] (.tup [B b, B true]) := by subst h; exact rposs_yes hs hk
theorem nar_len (p : Pl) (k : Nat) (a b : Int) : (narP p k a b).scenes.length = p.scenes.length := by
  unfold narP; split
  · rfl
  · split <;> rfl
end Go.Proofs.YtjghdbdiejaacaaGreatDoor
namespace Go.Proofs.YtjghdbdiejaacaaGreatDoor
open Go Go.Ab Ni
theorem en63 : Ent Tryz.prog 63 := Ent.of Tryz.func63 (by kernel_rfl) rfl
def soBad (a b : List Int) (h : a.length = b.length) (i : Nat) (hi : i < a.length) : Bool := !decide (a[i] = b[i]'(by omega))
theorem so_eq {a b : List Int} (h : a.length = b.length) {k : Nat} (hk : k < a.length) (ok : ∀ i, (hi : i < a.length) → i < k → soBad a b h i hi = false) (hd : a[k] ≠ b[k]'(by omega)) : soonB a b = decide (a[k] < b[k]'(by omega)) := by
  unfold soonB; rw [if_neg (by simpa using h)]
  exact lexB_diff hk (by omega) (fun j hj => by have := ok j (by omega) hj; simpa [soBad] using this) hd
theorem so_all {a b : List Int} (h : a.length = b.length) {k : Nat} (hk : ¬ (k : Int) < a.length) (ok : ∀ i, (hi : i < a.length) → i < k → soBad a b h i hi = false) : soonB a b = false := by
  unfold soonB; rw [if_neg (by simpa using h)]
  exact lexB_same h fun j hj => by have := ok j hj (by omega); simpa [soBad] using this
set_option maxHeartbeats 1000000 in
theorem rsoon_pure (a b : List Int) (ha : a.length ≤ 1000000) (hb : b.length ≤ 1000000) : APure Tryz.prog 63 [ints a, ints b] (B (soonB a b)) := by
  refine apure_of (rs := [.tmp 4]) Tryz.func63 rfl rfl (Nat.le_of_ble_eq_true rfl) (by simp [AV.pureL, AV.pureB, AV.pureE, pureE_map]) (rfl) fun e0 he0 => ?_
  refine aw_seq (aw_region ?_)
  refine asr (lr _) rfl ?_
  refine sq_nil (aw_seq (aw_seq (aw_region ?_)))
  refine mvs rfl (lr _) ?_
  refine sq_ev rfl (ev_len_map sl34 (lr _)) ?_
  refine mvs rfl (lr _) ?_
  refine sq_ev rfl (ev_len_map sl34 (lr _)) ?_
  refine sq_ev rfl (ev_neq (lr _) (lr _)) ?_
  refine sq_nil ?_
  refine aw_cond (lr _) (fun c1 => ?_) (fun c1 => ?_)
  · skip
    have c1' := c1
    try simp only [qq] at c1'
    refine aw_seq (aw_region ?_)
    refine mvs rfl (lr _) ?_
    refine sq_ev rfl (ev_len_map sl34 (lr _)) ?_
    refine mvs rfl (lr _) ?_
    refine sq_ev rfl (ev_len_map sl34 (lr _)) ?_
    refine sq_ev rfl (ev_gtr (lr _) (lr _)) ?_
    refine asr (lr _) rfl ?_
    refine sq_nil (aw_ret ?_)
    exact retQ_pure (v := .raw _) rfl rfl (Less.eq (by unfold soonB; rw [if_pos (by omega)]; simp))
  · skip
    have c1' := c1
    try simp only [qq] at c1'
    have hlen : a.length = b.length := by omega
    refine aw_skip (aw_seq (aw_seq (aw_region ?_)))
    refine asr (lr _) rfl ?_
    refine sq_nil (aw_block ?_)
    refine aw_loopk (ι := { k : Nat // k ≤ a.length ∧ ∀ i, (hi : i < a.length) → i < k → soBad a b hlen i hi = false }) [0, 1] (fun i => [(5, I i.1)]) (fun H i => H) (fun i => a.length - i.1) (⟨0, Nat.zero_le _, by omega⟩) ⟨lr _, lr _, lr _, trivial⟩ rfl ?_
    rintro ⟨k, hk, hok⟩
    dsimp only [keepS, St.put, sget, slotsOf, List.map_cons, List.map_nil, List.cons_append, List.nil_append, List.length_cons, List.length_nil, Nat.reduceBEq, Nat.reduceAdd, cond_true, cond_false]
    refine aw_seq (aw_seq (aw_region ?_))
    refine mvr (lr _) rfl ?_
    refine mvs rfl (lr _) ?_
    refine sq_ev rfl (ev_len_map sl34 (lr _)) ?_
    refine sq_ev rfl (ev_lss (lr _) (lr _)) ?_
    refine sq_nil ?_
    refine aw_cond (lr _) (fun c2 => ?_) (fun c2 => ?_)
    · skip
      have c2' := c2
      try simp only [qq] at c2'
      have hka : k < a.length := by omega
      have hkb : k < b.length := by omega
      refine aw_skip (aw_seq (aw_block (aw_seq ?_)))
      refine aw_draw 9 mo (by kernel_rfl) ?_
      refine dr_ev rfl (ev_mv (v := .sl _ _) (lr _)) ?_
      refine dr_ev rfl (ev_mv (v := .raw _) (lr _)) ?_
      refine dr_ev rfl (ev_index_map sl34 (lr _) (lr _) rfl (by omega)) ?_
      refine dr_ev rfl (ev_load_i (lr _) ty3 rfl) ?_
      refine dr_ev rfl (ev_mv (v := .sl _ _) (lr _)) ?_
      refine dr_ev rfl (ev_mv (v := .raw _) (lr _)) ?_
      refine dr_ev rfl (ev_index_map sl34 (lr _) (lr _) rfl (by omega)) ?_
      refine dr_ev rfl (ev_load_i (lr _) ty3 rfl) ?_
      refine dr_ev rfl (ev_neq (lr _) (lr _)) ?_
      refine dr_end (sq_nil ?_)
      refine aw_cond (lr _) (fun c3 => ?_) (fun c3 => ?_)
      · skip
        have c3' := c3
        try simp only [qq] at c3'
        refine aw_seq ?_
        refine aw_draw 10 mo (by kernel_rfl) ?_
        refine dr_ev rfl (ev_mv (v := .sl _ _) (lr _)) ?_
        refine dr_ev rfl (ev_mv (v := .raw _) (lr _)) ?_
        refine dr_ev rfl (ev_index_map sl34 (lr _) (lr _) rfl (by omega)) ?_
        refine dr_ev rfl (ev_load_i (lr _) ty3 rfl) ?_
        refine dr_ev rfl (ev_mv (v := .sl _ _) (lr _)) ?_
        refine dr_ev rfl (ev_mv (v := .raw _) (lr _)) ?_
        refine dr_ev rfl (ev_index_map sl34 (lr _) (lr _) rfl (by omega)) ?_
        refine dr_ev rfl (ev_load_i (lr _) ty3 rfl) ?_
        refine dr_ev rfl (ev_lss (lr _) (lr _)) ?_
        refine dr_ev rfl (ev_as (v := .raw _) (lr _)) ?_
        refine dr_end (sq_nil (aw_ret ?_))
        exact retQ_pure (v := .raw _) rfl rfl (Less.eq (by rw [so_eq hlen hka hok c3']))
      · skip
        have c3' := c3
        try simp only [qq] at c3'
        refine aw_skip (aw_region ?_)
        refine mvr (lr _) rfl ?_
        refine sq_ev rfl (ev_add (lr _) (lr _) (wr (by omega) (by omega))) ?_
        refine asr (lr _) rfl ?_
        refine sq_nil ?_
        exact ⟨⟨k + 1, by omega, fun i hi h => (by by_cases e : i = k; (subst e; simpa [soBad] using c3'); exact hok i hi (by omega))⟩, by simp only; omega, Sub.slots ⟨lr _, lr _, lr _, trivial⟩⟩
    · skip
      have c2' := c2
      try simp only [qq] at c2'
      refine aw_exit (aw_seq (aw_region ?_))
      refine asr (lr _) rfl ?_
      refine sq_nil (aw_ret ?_)
      exact retQ_pure (v := .raw _) rfl rfl (Less.eq (by rw [so_all hlen c2' hok]))
theorem soon_val {a b : List Nat} {v : Bool} (ha : a.length ≤ 1000000) (hb : b.length ≤ 1000000) (h : soonB (up a) (up b) = v) : APure Tryz.prog 63 [nats a, nats b] (B v) := by
  have := rsoon_pure (up a) (up b) (by simpa [up] using ha) (by simpa [up] using hb)
  rwa [h, ints_up, ints_up] at this
end Go.Proofs.YtjghdbdiejaacaaGreatDoor
namespace Go.Proofs.YtjghdbdiejaacaaGreatDoor
open Go Go.Ab Ni
theorem en125 : Ent Tryz.prog 125 := Ent.of Tryz.func125 (by kernel_rfl) rfl
theorem en126 : Ent Tryz.prog 126 := Ent.of Tryz.func126 (by kernel_rfl) rfl
def zC : List AV := [I 0, I 0, I 0, I 0, I 0, I 0, I 0, .raw (.slice none 0 0), .raw (.slice none 0 0)]
def outC (p : Pl) (l : List Nat) (k : Nat) : List AV := if k = 0 then zC else playedC p l
def surest (p : Pl) : Option (List Nat) := (allC p).find? (sureP p)
def sureL (p : Pl) : List (List Nat) := (allC p).filter (sureP p)
theorem sureL_head (p : Pl) : (sureL p).head? = surest p := by unfold sureL surest; exact List.head?_filter ..
theorem sureL_len {p : Pl} {l : List Nat} {r : List (List Nat)} (h : sureL p = l :: r) : ∀ x ∈ r, x.length ≤ l.length := fun x hx => by
  have ho := (allC_orderB p).filter (sureP p)
  change (sureL p).Pairwise _ at ho
  rw [h, List.pairwise_cons] at ho
  have := ho.1 x hx
  unfold soonB at this
  split at this
  · simp only [up, List.length_map, decide_eq_true_eq] at this; omega
  · rename_i g; simp [up] at g; omega
def surestAV (p : Pl) : AV := if PlOK p = true then (match surest p with | some l => .tup [nats l, I 0] | none => .tup [.sl 1 [], I 5]) else .tup [.sl 1 [], I 2]
theorem fits3 {p : Pl} {l : List Nat} (wp : WP p) (cv : CV p l) (a b c : Int) : fitsP p l [a, b, c] = (inn (a - p.beg) (lo p l 0 0 10) (hi p l 0 0 10) && (inn (b - a) (lo p l 1 0 10) (hi p l 1 0 10) && inn (c - b) (lo p l 2 0 10) (hi p l 2 0 10))) := by
  have e0 : pl p l 0 = lo p l 0 0 10 := pl_lo wp cv 0
  have e1 : pl p l 1 = lo p l 1 0 10 := pl_lo wp cv 1
  have e2 : pl p l 2 = lo p l 2 0 10 := pl_lo wp cv 2
  have f0 : ph p l 0 = hi p l 0 0 10 := ph_hi wp cv 0
  have f1 : ph p l 1 = hi p l 1 0 10 := ph_hi wp cv 1
  have f2 : ph p l 2 = hi p l 2 0 10 := ph_hi wp cv 2
  rw [← e0, ← e1, ← e2, ← f0, ← f1, ← f2, Bool.eq_iff_iff]
  unfold fitsP
  rw [okAll_iff]
  simp only [Bool.and_eq_true]
  constructor
  · intro g
    have g0 := g 0 (by simp); have g1 := g 1 (by simp); have g2 := g 2 (by simp)
    simp only [fitBad, Bool.not_eq_false'] at g0 g1 g2
    exact ⟨g0, g1, g2⟩
  · rintro ⟨g0, g1, g2⟩ k hk
    unfold fitBad
    rw [Bool.not_eq_false']
    rcases k with _ | _ | _ | k
    · exact g0
    · exact g1
    · exact g2
    · simp at hk; omega
theorem outC_in (n : Nat) (p : Pl) (l : List Nat) (k : Nat) : AV.inL n (outC p l k) = true := by unfold outC; split <;> simp [zC, AV.inL, AV.inB, inE_map]
set_option maxHeartbeats 400000 in
theorem nless_pure (p : Pl) (a b : List Nat) (ha : a.length ≤ 1000000) (hb : b.length ≤ 1000000) : APure Tryz.prog 126 [played p a, played p b] (B (decide ((a.length : Int) > b.length))) := by
  refine apure_of (rs := [.tmp 4]) Tryz.func126 rfl rfl (Nat.le_of_ble_eq_true rfl) (by simp [AV.pureL, AV.pureB, AV.pureE, pureE_map]) (rfl) fun e0 he0 => ?_
  refine aw_seq (aw_region ?_)
  refine sq_box rfl (lr _) rfl ?_
  refine sq_box rfl (lr _) rfl ?_
  refine asr (lr _) rfl ?_
  refine sq_nil (aw_seq (aw_region ?_))
  refine sq_ev rfl (ev_fieldAddr fo110_1 (lr _)) ?_
  refine sq_ev rfl (ev_load (lr _) rfl ty34 rfl) ?_
  refine sq_ev rfl (ev_len_map sl34 (lr _)) ?_
  refine sq_ev rfl (ev_fieldAddr fo110_1 (lr _)) ?_
  refine sq_ev rfl (ev_load (lr _) rfl ty34 rfl) ?_
  refine sq_ev rfl (ev_len_map sl34 (lr _)) ?_
  refine sq_ev rfl (ev_gtr (lr _) (lr _)) ?_
  refine asr (lr _) rfl ?_
  refine sq_nil (aw_ret ?_)
  exact retQ_pure (v := .raw _) rfl rfl (Less.eq (by simp))
set_option maxHeartbeats 400000 in
theorem nbestN_pure  : APure Tryz.prog 125 [.sl 9 [], .fn (.func 126) [] []] (.tup [.agg [I 0, I 0, I 0, I 0, I 0, I 0, I 0, .raw (.slice none 0 0), .raw (.slice none 0 0)], B false]) := by
 refine apure_of (rs := [.cell 4 110, .tmp 5]) Tryz.func125 rfl rfl (Nat.le_of_ble_eq_true rfl) (by simp [AV.pureL, AV.pureB, AV.pureE, pureE_map]) (rfl) fun e0 he0 => ?_
 refine aw_seq (aw_region ?_)
 refine sq_alloc rfl z110 ?_
 refine asr (lr _) rfl ?_
 refine sq_nil (aw_seq (aw_region ?_))
 refine sq_alloc rfl z110 ?_
 refine sq_nil (aw_seq (aw_seq (aw_region ?_)))
 refine mvs rfl (lr _) ?_
 refine sq_ev rfl (ev_len sl107 (lr _) rfl) ?_
 refine mvr (lr _) rfl ?_
 refine sq_nil (aw_block ?_)
 refine aw_loopk (ι := Unit) [0, 1, 4, 6, 9, 10] (fun k => [(11, I 0)]) (fun H k => H) (fun k => 0) (()) ⟨lr _, lr _, lr _, lr _, lr _, lr _, lr _, trivial⟩ rfl ?_
 rintro _
 dsimp only [keepS, St.put, sget, slotsOf, List.map_cons, List.map_nil, List.cons_append, List.nil_append, List.length_cons, List.length_nil, Nat.reduceBEq, Nat.reduceAdd, cond_true, cond_false]
 refine aw_seq (aw_region ?_)
 refine sq_ev rfl (ev_lss (lr _) (lr _)) ?_
 refine sq_nil (aw_seq ?_)
 refine aw_cond (lr _) (fun c1 => ?_) (fun c1 => ?_)
 ·
  have c1' := c1
  try simp only [qq] at c1'
  exfalso; simp at c1
 ·
  have c1' := c1
  try simp only [qq] at c1'
  refine aw_exit (aw_seq (aw_region ?_))
  refine sq_ev rfl (ev_load_agg (lr _) rfl ty110 rfl) ?_
  refine mvs rfl (lr _) ?_
  refine sq_ev rfl (ev_len sl107 (lr _) rfl) ?_
  refine sq_ev rfl (ev_gtr (lr _) (lr _)) ?_
  refine sq_store rfl (lr _) (lr _) rfl rfl ty110 rfl rfl ?_
  refine asr (lr _) rfl ?_
  refine sq_nil (aw_ret ?_)
  exact retQ_res (vs := [.agg _, .raw _]) rfl rfl ⟨resVar_cell rfl rfl ty110 rfl, resVar_tmp _ _ _, trivial⟩ (lr _)
set_option maxHeartbeats 1000000 in
theorem nbest_pure (p : Pl) (l : List Nat) (r : List (List Nat)) (hl : ∀ x ∈ r, x.length ≤ l.length) (hb : l.length ≤ 1000000) (hr : r.length ≤ 100000000) : APure Tryz.prog 125 [playeds p (l :: r), .fn (.func 126) [] []] (.tup [played p l, B true]) := by
 refine apure_of (rs := [.cell 4 110, .tmp 5]) Tryz.func125 rfl rfl (Nat.le_of_ble_eq_true rfl) (by simp [AV.pureL, AV.pureB, AV.pureE, pureE_map]) (by simp [AV.pureL, AV.pureB, AV.pureE, pureE_map]) fun e0 he0 => ?_
 refine aw_seq (aw_region ?_)
 refine sq_alloc rfl z110 ?_
 refine asr (lr _) rfl ?_
 refine sq_nil (aw_seq (aw_region ?_))
 refine sq_alloc rfl z110 ?_
 refine sq_nil (aw_seq (aw_seq (aw_region ?_)))
 refine mvs rfl (lr _) ?_
 refine sq_ev rfl (ev_len_map sl107 (lr _)) ?_
 refine mvr (lr _) rfl ?_
 refine sq_nil (aw_block ?_)
 refine aw_loopk (ι := { k : Nat // k ≤ (l :: r).length }) [0, 1, 4, 6, 9, 10] (fun k => [(11, I k.1)]) (fun H k => H.set 1 (.cells (outC p l k.1))) (fun k => (l :: r).length - k.1) (⟨0, Nat.zero_le _⟩) ⟨lr _, lr _, lr _, lr _, lr _, lr _, lr _, trivial⟩ rfl ?_
 rintro ⟨k, hk⟩
 dsimp only [keepS, St.put, sget, slotsOf, List.map_cons, List.map_nil, List.cons_append, List.nil_append, List.length_cons, List.length_nil, Nat.reduceBEq, Nat.reduceAdd, cond_true, cond_false]
 refine aw_seq (aw_region ?_)
 refine sq_ev rfl (ev_lss (lr _) (lr _)) ?_
 refine sq_nil (aw_seq ?_)
 refine aw_cond (lr _) (fun c1 => ?_) (fun c1 => ?_)
 ·
  have c1' := c1
  try simp only [qq] at c1'
  have hk' : k < (l :: r).length := by simp at c1 ⊢; omega
  refine aw_skip (aw_seq (aw_block (aw_seq (aw_region ?_))))
  refine mvr (lr _) rfl ?_
  refine sq_ev rfl (ev_index_map sl107 (lr _) (lr _) rfl (by omega)) ?_
  refine sq_ev rfl (ev_load_agg_i (lr _) ty110 (Nat.le_of_ble_eq_true rfl)) ?_
  refine sq_alloc rfl z110 ?_
  refine asr (lr _) rfl ?_
  refine sq_store rfl (lr _) (lr _) rfl rfl ty110 rfl rfl ?_
  refine sq_nil (aw_seq (aw_region ?_))
  refine mvr (lr _) rfl ?_
  refine sq_ev rfl (ev_eql (lr _) (lr _)) ?_
  refine mvr (lr _) rfl ?_
  refine sq_split 18 (lr _) (fun g2 => ?_) (fun g2 => ?_)
  ·
   have g2' := g2
   try simp only [qq] at g2'
   have hk0 : k = 0 := by omega
   have ho0 : outC p l k = zC := if_pos hk0
   rw [ho0]
   have eO : outC p l (k + 1) = playedC p (l :: r)[k] := by subst hk0; rfl
   refine sq_no rfl rfl (less_b g2) rfl rfl ?_
   refine sq_no rfl rfl (less_b g2) rfl rfl ?_
   refine sq_no rfl rfl (less_b g2) rfl rfl ?_
   refine sq_no rfl rfl (less_b g2) rfl rfl ?_
   refine sq_ev rfl (ev_pickT (v := .raw _) (less_b g2) (lr _)) ?_
   refine sq_nil ?_
   refine aw_true (lr _) ?_
   refine aw_region ?_
   refine sq_ev rfl (ev_load_agg (lr _) rfl ty110 rfl) ?_
   refine sq_store rfl (lr _) (lr _) rfl rfl ty110 rfl rfl ?_
   refine sq_nil (aw_region ?_)
   refine sq_ev rfl (ev_add (lr _) (lr _) (wr (by omega) (by omega))) ?_
   refine mvr (lr _) rfl ?_
   refine sq_nil ?_
   exact ⟨⟨k + 1, by omega⟩, by simp only; omega, Sub.fin 2 ⟨lr _, lr _, lr _, lr _, lr _, lr _, lr _, trivial⟩ (congrArg (fun c => [_, AObj.cells c]) eO.symm) (by simp [slotsIn, objsIn, sget, keepS, AObj.inB, AV.inB, AV.inL, AV.inE, inE_map, inE_ints, outC_in, inE_sc, -List.map_append, -List.map_take, -List.map_map]) (by simp [slotsIn, objsIn, sget, keepS, AObj.inB, AV.inB, AV.inL, AV.inE, inE_map, inE_ints, outC_in, inE_sc, -List.map_append, -List.map_take, -List.map_map]) (by simp [he0])⟩
  ·
   have g2' := g2
   try simp only [qq] at g2'
   have ho : outC p l k = playedC p l := if_neg (by omega)
   rw [ho]
   have eO : outC p l (k + 1) = playedC p l := rfl
   have hle : (l :: r)[k].length ≤ l.length := by
    rcases List.mem_cons.1 (List.getElem_mem hk') with h | h
    ·
     rw [h]; exact Nat.le_refl _
    ·
     exact hl _ h
   refine sq_yes rfl rfl (less_b g2) rfl (ev_mv (v := .fn _ _ _) (lr _)) ?_
   refine sq_yes rfl rfl (less_b g2) rfl (ev_load_agg (lr _) rfl ty110 rfl) ?_
   refine sq_yes rfl rfl (less_b g2) rfl (ev_load_agg (lr _) rfl ty110 rfl) ?_
   refine sq_yes rfl rfl (less_b g2) rfl (ev_call en126 (lr _) (nless_pure p (l :: r)[k] l (by omega) hb) ⟨lr _, lr _, trivial⟩) ?_
   refine sq_ev rfl (ev_pickF (v := .raw _) (less_b g2) (lr _)) ?_
   refine sq_nil ?_
   refine aw_cond (lr _) (fun c3 => ?_) (fun c3 => ?_)
   ·
    have c3' := c3
    try simp only [qq] at c3'
    exfalso; simp at c3; omega
   ·
    have c3' := c3
    try simp only [qq] at c3'
    refine aw_skip (aw_region ?_)
    refine sq_ev rfl (ev_add (lr _) (lr _) (wr (by omega) (by omega))) ?_
    refine mvr (lr _) rfl ?_
    refine sq_nil ?_
    exact ⟨⟨k + 1, by omega⟩, by simp only; omega, Sub.fin 2 ⟨lr _, lr _, lr _, lr _, lr _, lr _, lr _, trivial⟩ (congrArg (fun c => [_, AObj.cells c]) eO.symm) (by simp [slotsIn, objsIn, sget, keepS, AObj.inB, AV.inB, AV.inL, AV.inE, inE_map, inE_ints, outC_in, inE_sc, -List.map_append, -List.map_take, -List.map_map]) (by simp [slotsIn, objsIn, sget, keepS, AObj.inB, AV.inB, AV.inL, AV.inE, inE_map, inE_ints, outC_in, inE_sc, -List.map_append, -List.map_take, -List.map_map]) (by simp [he0])⟩
 ·
  have c1' := c1
  try simp only [qq] at c1'
  simp at c1
  have hkl : (l :: r).length = r.length + 1 := List.length_cons
  have ho : outC p l k = playedC p l := if_neg (by omega)
  rw [ho]
  refine aw_exit (aw_seq (aw_region ?_))
  refine sq_ev rfl (ev_load_agg (lr _) rfl ty110 rfl) ?_
  refine mvs rfl (lr _) ?_
  refine sq_ev rfl (ev_len_map sl107 (lr _)) ?_
  refine sq_ev rfl (ev_gtr (lr _) (lr _)) ?_
  refine sq_store rfl (lr _) (lr _) rfl rfl ty110 rfl rfl ?_
  refine asr (lr _) rfl ?_
  refine sq_nil (aw_ret ?_)
  exact retQ_res (vs := [.agg _, .raw _]) rfl rfl ⟨resVar_cell rfl rfl ty110 rfl, resVar_tmp _ _ _, trivial⟩ (Less.eq (by simp))
set_option maxHeartbeats 2000000 in
theorem nSurest0_pure (p : Pl) (gp : GP p) (hok : PlOK p = true) (hL : (allC p).filter (sureP p) = []) : APure Tryz.prog 65 [plan p] (.tup [.sl 1 [], I 5]) := by
 refine apure_of_marks (rs := [.tmp 2, .tmp 3]) Tryz.func65 rfl rfl (Nat.le_of_ble_eq_true rfl) (by simp [AV.pureL, AV.pureB, AV.pureE, pureE_map]) (by simp [AV.pureL, AV.pureB, AV.pureE, pureE_map]) fun e0 he0 => ?_
 refine aw_seq (aw_region ?_)
 refine sq_box rfl (lr _) rfl ?_
 refine asr (lr _) rfl ?_
 refine asr (lr _) rfl ?_
 refine sq_nil (aw_seq (aw_seq (aw_region ?_)))
 refine sq_ev rfl (ev_load_agg (lr _) rfl ty27 rfl) ?_
 refine sq_ev rfl (ev_call en85 (lr _) (isplan_pure p (by have := gp.len; omega)) ⟨lr _, trivial⟩) ?_
 refine sq_ev rfl (ev_not (lr _)) ?_
 refine sq_nil ?_
 refine aw_cond (lr _) (fun c1 => ?_) (fun c1 => ?_)
 ·
  have c1' := c1
  try simp only [qq] at c1'
  exfalso; simp [hok] at c1
 ·
  have c1' := c1
  try simp only [qq] at c1'
  refine aw_skip (aw_seq (aw_region ?_))
  refine sq_alloc rfl z107 ?_
  refine sq_nil (aw_seq (aw_seq (aw_region ?_)))
  refine sq_ev rfl (ev_load_agg (lr _) rfl ty27 rfl) ?_
  refine sq_ev rfl (ev_call en124 (lr _) (nchoices0_pure p) ⟨lr _, trivial⟩) ?_
  refine sq_nil (aw_block ?_)
  refine aw_sub (sub_token_box 1 9 rfl) ?_
  refine aw_rangeFunc1 (xs := (allC p).map nats) (fun k => [.cells (planC p), .cells [.own 2 9 ((((allC p).take k).filter (sureP p)).map (playedC p))], .tok ((((allC p).take k).filter (sureP p)).map (playedC p)).length]) ((allC p).map nats).length none (Nat.le_refl _) (fun _ => rfl) (fun h => absurd rfl h) rfl rfl (lr _) en155 (nchoices_iter gp) rfl (fun _ => rfl) (fun k hk => by show objsIn 3 _ = true; simp [objsIn, AObj.inB, AV.inB, AV.inL, AV.inE, inE_map, inE_played, inE_nats, -List.map_take, -List.map_map, -List.map_append]) (fun x hx => by obtain ⟨y, _, rfl⟩ := List.mem_map.1 hx; simp [AV.pureB, AV.pureL, AV.pureE, pureE_map]) rfl rfl ?_ ?_
  ·
   intro l i x e0 hi hx he0
   obtain ⟨y, hy, rfl⟩ := xs_get hx
   obtain ⟨hk', he'⟩ := get_eq hy
   have cv := allC_mem gp y (List.mem_of_getElem? hy)
   have hft := ft_len (sureP p) (allC p) i
   have hal := allC_len gp
   dsimp only [keepS, St.put, sget, slotsOf, List.map_cons, List.map_nil, List.cons_append, List.nil_append, List.length_cons, List.length_nil, Nat.reduceBEq, Nat.reduceAdd, cond_true, cond_false]
   refine aw_block (aw_seq (aw_region ?_))
   refine sq_ev rfl (ev_load_agg (lr _) rfl ty27 rfl) ?_
   refine mvs rfl (lr _) ?_
   refine sq_ev rfl (ev_build bi110 rfl) ?_
   refine sq_alloc rfl z110 ?_
   refine sq_store rfl (lr _) (lr _) rfl rfl ty110 rfl rfl ?_
   refine sq_nil (aw_seq (aw_region ?_))
   refine sq_ev rfl (ev_load_agg (lr _) rfl ty110 rfl) ?_
   refine sq_ev rfl (ev_call en123 (lr _) (nsure_pure p y gp cv) ⟨lr _, trivial⟩) ?_
   refine sq_nil ?_
   refine aw_cond (lr _) (fun c2 => ?_) (fun c2 => ?_)
   ·
    have c2' := c2
    try simp only [qq] at c2'
    have eS : (((allC p).take (i + 1)).filter (sureP p)).map (playedC p) = (((allC p).take i).filter (sureP p)).map (playedC p) ++ [playedC p y] := by rw [filter_take_succ _ hk', he', if_pos c2', List.map_append]; rfl
    refine aw_region ?_
    refine sq_ev rfl (ev_load (lr _) rfl ty107 rfl) ?_
    refine sq_ev rfl (ev_load_agg (lr _) rfl ty110 rfl) ?_
    refine sq_ev rfl (ev_buildSlice (es := [[_, _, _, _, _, _, _, _, _]]) sf107 rfl rfl rfl rfl) ?_
    refine sq_append rfl sf107 Tryz.underlying107 rfl rfl (less_slx _ _) (Nat.succ_pos _) (by simp; omega) (by simp; omega) ?_
    refine sq_store rfl (lr _) (lr _) rfl rfl ty107 rfl rfl ?_
    refine sq_nil ?_
    exact ⟨⟨[.cells (playedC p y)], congrArg (fun L => [AObj.cells (planC p), .cells [.own 2 9 L], .tok L.length, .cells (playedC p y)]) eS.symm⟩, rfl, by split <;> rfl⟩
   ·
    have c2' := c2
    try simp only [qq] at c2'
    have eS : (((allC p).take (i + 1)).filter (sureP p)).map (playedC p) = (((allC p).take i).filter (sureP p)).map (playedC p) := by rw [filter_take_succ _ hk', he', if_neg (by simp [c2']), List.append_nil]
    refine aw_skip ?_
    exact ⟨⟨[.cells (playedC p y)], congrArg (fun L => [AObj.cells (planC p), .cells [.own 2 9 L], .tok L.length, .cells (playedC p y)]) eS.symm⟩, rfl, by split <;> rfl⟩
  ·
   rintro _ rfl
   have hall : (allC p).take ((allC p).map nats).length = allC p := by rw [List.length_map, List.take_length]
   try rw [hall]
   refine aw_seq (aw_region ?_)
   refine sq_ev rfl (ev_load (lr _) rfl ty107 rfl) ?_
   refine sq_ev rfl (ev_call en125 (lr _) (nbestN_pure) ⟨Less.trans (less_own _ _ _) (Less.eq (by simp [hL])), lr _, trivial⟩) ?_
   refine sq_ev rfl (ev_mv (v := .tup _) (lr _)) ?_
   refine xtr rfl (lr _) rfl ?_
   refine xtr rfl (lr _) rfl ?_
   refine sq_alloc rfl z110 ?_
   refine sq_store rfl (lr _) (lr _) rfl rfl ty110 rfl rfl ?_
   refine asr (lr _) rfl ?_
   refine sq_nil (aw_seq (aw_seq (aw_region ?_)))
   refine mvr (lr _) rfl ?_
   refine sq_ev rfl (ev_not (lr _)) ?_
   refine sq_nil ?_
   refine aw_cond (lr _) (fun c3 => ?_) (fun c3 => ?_)
   ·
    have c3' := c3
    try simp only [qq] at c3'
    refine aw_seq (aw_region ?_)
    refine asr (lr _) rfl ?_
    refine asr (lr _) rfl ?_
    refine sq_nil (aw_ret ?_)
    exact retQM_pure (v := .tup [.raw _, .raw _]) rfl rfl (less_tup ⟨less_nil 1, lr _, trivial⟩)
   ·
    have c3' := c3
    try simp only [qq] at c3'
    exact absurd c3 (by decide)
set_option maxHeartbeats 2000000 in
theorem nSurest1_pure (p : Pl) (l : List Nat) (r : List (List Nat)) (gp : GP p) (hok : PlOK p = true) (hL : sureL p = l :: r) : APure Tryz.prog 65 [plan p] (.tup [nats l, I 0]) := by
 refine apure_of_marks (rs := [.tmp 2, .tmp 3]) Tryz.func65 rfl rfl (Nat.le_of_ble_eq_true rfl) (by simp [AV.pureL, AV.pureB, AV.pureE, pureE_map]) (by simp [AV.pureL, AV.pureB, AV.pureE, pureE_map]) fun e0 he0 => ?_
 refine aw_seq (aw_region ?_)
 refine sq_box rfl (lr _) rfl ?_
 refine asr (lr _) rfl ?_
 refine asr (lr _) rfl ?_
 refine sq_nil (aw_seq (aw_seq (aw_region ?_)))
 refine sq_ev rfl (ev_load_agg (lr _) rfl ty27 rfl) ?_
 refine sq_ev rfl (ev_call en85 (lr _) (isplan_pure p (by have := gp.len; omega)) ⟨lr _, trivial⟩) ?_
 refine sq_ev rfl (ev_not (lr _)) ?_
 refine sq_nil ?_
 refine aw_cond (lr _) (fun c1 => ?_) (fun c1 => ?_)
 ·
  have c1' := c1
  try simp only [qq] at c1'
  exfalso; simp [hok] at c1
 ·
  have c1' := c1
  try simp only [qq] at c1'
  refine aw_skip (aw_seq (aw_region ?_))
  refine sq_alloc rfl z107 ?_
  refine sq_nil (aw_seq (aw_seq (aw_region ?_)))
  refine sq_ev rfl (ev_load_agg (lr _) rfl ty27 rfl) ?_
  refine sq_ev rfl (ev_call en124 (lr _) (nchoices0_pure p) ⟨lr _, trivial⟩) ?_
  refine sq_nil (aw_block ?_)
  refine aw_sub (sub_token_box 1 9 rfl) ?_
  refine aw_rangeFunc1 (xs := (allC p).map nats) (fun k => [.cells (planC p), .cells [.own 2 9 ((((allC p).take k).filter (sureP p)).map (playedC p))], .tok ((((allC p).take k).filter (sureP p)).map (playedC p)).length]) ((allC p).map nats).length none (Nat.le_refl _) (fun _ => rfl) (fun h => absurd rfl h) rfl rfl (lr _) en155 (nchoices_iter gp) rfl (fun _ => rfl) (fun k hk => by show objsIn 3 _ = true; simp [objsIn, AObj.inB, AV.inB, AV.inL, AV.inE, inE_map, inE_played, inE_nats, -List.map_take, -List.map_map, -List.map_append]) (fun x hx => by obtain ⟨y, _, rfl⟩ := List.mem_map.1 hx; simp [AV.pureB, AV.pureL, AV.pureE, pureE_map]) rfl rfl ?_ ?_
  ·
   intro l i x e0 hi hx he0
   obtain ⟨y, hy, rfl⟩ := xs_get hx
   obtain ⟨hk', he'⟩ := get_eq hy
   have cv := allC_mem gp y (List.mem_of_getElem? hy)
   have hft := ft_len (sureP p) (allC p) i
   have hal := allC_len gp
   dsimp only [keepS, St.put, sget, slotsOf, List.map_cons, List.map_nil, List.cons_append, List.nil_append, List.length_cons, List.length_nil, Nat.reduceBEq, Nat.reduceAdd, cond_true, cond_false]
   refine aw_block (aw_seq (aw_region ?_))
   refine sq_ev rfl (ev_load_agg (lr _) rfl ty27 rfl) ?_
   refine mvs rfl (lr _) ?_
   refine sq_ev rfl (ev_build bi110 rfl) ?_
   refine sq_alloc rfl z110 ?_
   refine sq_store rfl (lr _) (lr _) rfl rfl ty110 rfl rfl ?_
   refine sq_nil (aw_seq (aw_region ?_))
   refine sq_ev rfl (ev_load_agg (lr _) rfl ty110 rfl) ?_
   refine sq_ev rfl (ev_call en123 (lr _) (nsure_pure p y gp cv) ⟨lr _, trivial⟩) ?_
   refine sq_nil ?_
   refine aw_cond (lr _) (fun c2 => ?_) (fun c2 => ?_)
   ·
    have c2' := c2
    try simp only [qq] at c2'
    have eS : (((allC p).take (i + 1)).filter (sureP p)).map (playedC p) = (((allC p).take i).filter (sureP p)).map (playedC p) ++ [playedC p y] := by rw [filter_take_succ _ hk', he', if_pos c2', List.map_append]; rfl
    refine aw_region ?_
    refine sq_ev rfl (ev_load (lr _) rfl ty107 rfl) ?_
    refine sq_ev rfl (ev_load_agg (lr _) rfl ty110 rfl) ?_
    refine sq_ev rfl (ev_buildSlice (es := [[_, _, _, _, _, _, _, _, _]]) sf107 rfl rfl rfl rfl) ?_
    refine sq_append rfl sf107 Tryz.underlying107 rfl rfl (less_slx _ _) (Nat.succ_pos _) (by simp; omega) (by simp; omega) ?_
    refine sq_store rfl (lr _) (lr _) rfl rfl ty107 rfl rfl ?_
    refine sq_nil ?_
    exact ⟨⟨[.cells (playedC p y)], congrArg (fun L => [AObj.cells (planC p), .cells [.own 2 9 L], .tok L.length, .cells (playedC p y)]) eS.symm⟩, rfl, by split <;> rfl⟩
   ·
    have c2' := c2
    try simp only [qq] at c2'
    have eS : (((allC p).take (i + 1)).filter (sureP p)).map (playedC p) = (((allC p).take i).filter (sureP p)).map (playedC p) := by rw [filter_take_succ _ hk', he', if_neg (by simp [c2']), List.append_nil]
    refine aw_skip ?_
    exact ⟨⟨[.cells (playedC p y)], congrArg (fun L => [AObj.cells (planC p), .cells [.own 2 9 L], .tok L.length, .cells (playedC p y)]) eS.symm⟩, rfl, by split <;> rfl⟩
  ·
   rintro _ rfl
   have hall : (allC p).take ((allC p).map nats).length = allC p := by rw [List.length_map, List.take_length]
   try rw [hall]
   refine aw_seq (aw_region ?_)
   refine sq_ev rfl (ev_load (lr _) rfl ty107 rfl) ?_
   refine sq_ev rfl (ev_call en125 (lr _) (nbest_pure p l r (sureL_len hL) (by have := (allC_mem gp l (List.mem_filter.1 (show l ∈ sureL p by rw [hL]; simp)).1).len; omega) (by have h := congrArg List.length hL; have := List.length_filter_le (sureP p) (allC p); have := allC_len gp; unfold sureL at h; rw [List.length_cons] at h; omega)) ⟨Less.trans (less_own _ _ _) (Less.eq (by rw [show (allC p).filter (sureP p) = l :: r from hL])), lr _, trivial⟩) ?_
   refine sq_ev rfl (ev_mv (v := .tup _) (lr _)) ?_
   refine xtr rfl (lr _) rfl ?_
   refine xtr rfl (lr _) rfl ?_
   refine sq_alloc rfl z110 ?_
   refine sq_store rfl (lr _) (lr _) rfl rfl ty110 rfl rfl ?_
   refine asr (lr _) rfl ?_
   refine sq_nil (aw_seq (aw_seq (aw_region ?_)))
   refine mvr (lr _) rfl ?_
   refine sq_ev rfl (ev_not (lr _)) ?_
   refine sq_nil ?_
   refine aw_cond (lr _) (fun c3 => ?_) (fun c3 => ?_)
   ·
    have c3' := c3
    try simp only [qq] at c3'
    exact absurd c3 (by decide)
   ·
    have c3' := c3
    try simp only [qq] at c3'
    refine aw_skip (aw_seq (aw_region ?_))
    refine sq_ev rfl (ev_fieldAddr fo110_1 (lr _)) ?_
    refine sq_ev rfl (ev_load (lr _) rfl ty34 rfl) ?_
    refine ass rfl (lr _) ?_
    refine asr (lr _) rfl ?_
    refine sq_nil (aw_ret ?_)
    exact retQM_pure (v := .tup [.sl _ _, .raw _]) rfl rfl (lr _)
set_option maxHeartbeats 400000 in
theorem nSurestX_pure (p : Pl) (hp : p.scenes.length ≤ 1000000) (hok : PlOK p = false) : APure Tryz.prog 65 [plan p] (.tup [.sl 1 [], I 2]) := by
 refine apure_of (rs := [.tmp 2, .tmp 3]) Tryz.func65 rfl rfl (Nat.le_of_ble_eq_true rfl) (by simp [AV.pureL, AV.pureB, AV.pureE, pureE_map]) (by simp [AV.pureL, AV.pureB, AV.pureE, pureE_map]) fun e0 he0 => ?_
 refine aw_seq (aw_region ?_)
 refine sq_box rfl (lr _) rfl ?_
 refine asr (lr _) rfl ?_
 refine asr (lr _) rfl ?_
 refine sq_nil (aw_seq (aw_seq (aw_region ?_)))
 refine sq_ev rfl (ev_load_agg (lr _) rfl ty27 rfl) ?_
 refine sq_ev rfl (ev_call en85 (lr _) (isplan_pure p hp) ⟨lr _, trivial⟩) ?_
 refine sq_ev rfl (ev_not (lr _)) ?_
 refine sq_nil ?_
 refine aw_cond (lr _) (fun c1 => ?_) (fun c1 => ?_)
 ·
  have c1' := c1
  try simp only [qq] at c1'
  refine aw_seq (aw_region ?_)
  refine asr (lr _) rfl ?_
  refine asr (lr _) rfl ?_
  refine sq_nil (aw_ret ?_)
  exact retQ_pure (v := .tup [.raw _, .raw _]) rfl rfl (less_tup ⟨less_nil 1, lr _, trivial⟩)
 ·
  have c1' := c1
  try simp only [qq] at c1'
  exfalso; simp [hok] at c1
theorem nSurest_pure (p : Pl) (hp : p.scenes.length ≤ 1000000) : APure Tryz.prog 65 [plan p] (surestAV p) := by
  unfold surestAV
  cases hok : PlOK p with
  | false => rw [if_neg (by simp)]; exact nSurestX_pure p hp hok
  | true =>
    rw [if_pos rfl]
    obtain ⟨gp, _⟩ := gp_of_ok hok
    have hh := sureL_head p
    cases hL : sureL p with
    | nil => rw [hL] at hh; rw [← hh]; exact nSurest0_pure p gp hok hL
    | cons l r => rw [hL] at hh; rw [← hh]; exact nSurest1_pure p l r gp hok hL
end Go.Proofs.YtjghdbdiejaacaaGreatDoor
namespace Go.Proofs.YtjghdbdiejaacaaGreatDoor
open Go Go.Ab Ni
theorem en65 : Ent Tryz.prog 65 := Ent.of Tryz.func65 (by kernel_rfl) rfl
theorem sureAV_yes {p : Pl} {l : List Nat} (hs : p.scenes.length ≤ 12) (hl : l.length ≤ 12) (h : chosenB p (up l) = true) : APure Tryz.prog 64 [plan p, nats l] (.tup [B (sureP p l), I 0]) := by
  have := nSure_pure p (up l) (by omega) (by simp [up]; omega); unfold sureAV at this; rwa [if_pos h, dn_up, ints_up] at this
theorem su_no {p : Pl} (hs : p.scenes.length ≤ 12) (h : PlOK p = true) (k : surest p = none) : APure Tryz.prog 65 [plan p] (.tup [.sl 1 [], I 5]) := by have := nSurest_pure p (by omega); unfold surestAV at this; rw [if_pos h, k] at this; exact this
theorem su_yes {p : Pl} {l : List Nat} (hs : p.scenes.length ≤ 12) (h : PlOK p = true) (k : surest p = some l) : APure Tryz.prog 65 [plan p] (.tup [nats l, I 0]) := by have := nSurest_pure p (by omega); unfold surestAV at this; rw [if_pos h, k] at this; exact this
theorem mi_no {p : Pl} (hs : p.scenes.length ≤ 12) (h : PlOK p = true) (k : missed p = none) : APure Tryz.prog 66 [plan p] (.tup [.sl 1 [], I 5]) := by have := nMisses_pure p (by omega); unfold missAV at this; rw [if_pos h, k] at this; exact this
theorem mi_yes {p : Pl} {l : List Int} (hs : p.scenes.length ≤ 12) (h : PlOK p = true) (k : missed p = some l) : APure Tryz.prog 66 [plan p] (.tup [ints l, I 0]) := by have := nMisses_pure p (by omega); unfold missAV at this; rw [if_pos h, k] at this; exact this
end Go.Proofs.YtjghdbdiejaacaaGreatDoor
namespace Go.Proofs.YtjghdbdiejaacaaGreatDoor
open Go Go.Ab Ni
theorem en80 : Ent Tryz.prog 80 := Ent.of Tryz.func80 (by kernel_rfl) rfl
theorem en81 : Ent Tryz.prog 81 := Ent.of Tryz.func81 (by kernel_rfl) rfl
theorem en82 : Ent Tryz.prog 82 := Ent.of Tryz.func82 (by kernel_rfl) rfl
def aloneP (p : Pl) (a b c : Int) : Pl := narP (narP (narP p 0 a a) 1 b b) 2 c c
def alK (p : Pl) (a b c : Int) (k : Nat) : Pl := if k = 0 then p else if k = 1 then narP p 0 a a else if k = 2 then narP (narP p 0 a a) 1 b b else aloneP p a b c
theorem alK_succ (p : Pl) (a b c : Int) {k : Nat} (hk : k < 3) : alK p a b c (k + 1) = narP (alK p a b c k) k ([a, b, c].getD k 0) ([a, b, c].getD k 0) := by
  rcases k with _ | _ | _ | k
  · rfl
  · rfl
  · rfl
  · omega
def hrIn (p : Pl) (a b c : Int) : Bool := inn a p.s0l p.s0h && (inn b p.s1l p.s1h && inn c p.dl p.dh)
theorem hrIn_iff {p : Pl} {a b c : Int} : hrIn p a b c = true ↔ (p.s0l ≤ a ∧ a ≤ p.s0h) ∧ (p.s1l ≤ b ∧ b ≤ p.s1h) ∧ (p.dl ≤ c ∧ c ≤ p.dh) := by
  simp [hrIn, inn]
theorem fit_fits {p : Pl} {l : List Nat} (wp : WP p) (cv : CV p l) {a b c : Int} (h : hrIn p a b c = true) : FitH p l (a, b, c) ↔ fitsP p l [a, b, c] = true := by
  have e0 : pl p l 0 = lo p l 0 0 10 := pl_lo wp cv 0
  have e1 : pl p l 1 = lo p l 1 0 10 := pl_lo wp cv 1
  have e2 : pl p l 2 = lo p l 2 0 10 := pl_lo wp cv 2
  have f0 : ph p l 0 = hi p l 0 0 10 := ph_hi wp cv 0
  have f1 : ph p l 1 = hi p l 1 0 10 := ph_hi wp cv 1
  have f2 : ph p l 2 = hi p l 2 0 10 := ph_hi wp cv 2
  obtain ⟨⟨w1, w2⟩, ⟨w3, w4⟩, w5, w6⟩ := hrIn_iff.1 h
  rw [fits3 wp cv, ← e0, ← e1, ← e2, ← f0, ← f1, ← f2]
  simp only [inn, Bool.and_eq_true, decide_eq_true_eq]
  constructor
  · rintro ⟨_, _, _, _, _, _, g7, g8, g9, g10, g11, g12⟩; exact ⟨⟨g7, g8⟩, ⟨g9, g10⟩, g11, g12⟩
  · rintro ⟨⟨g7, g8⟩, ⟨g9, g10⟩, g11, g12⟩; exact ⟨w1, w2, w3, w4, w5, w6, g7, g8, g9, g10, g11, g12⟩
theorem alone_fit {p : Pl} {l : List Nat} {a b c : Int} (h : hrIn p a b c = true) {x : Hr} : FitH (aloneP p a b c) l x ↔ x = (a, b, c) ∧ FitH p l (a, b, c) := by
  obtain ⟨⟨w1, w2⟩, ⟨w3, w4⟩, w5, w6⟩ := hrIn_iff.1 h
  obtain ⟨x1, x2, x3⟩ := x
  constructor
  · rintro ⟨g1, g2, g3, g4, g5, g6, g7, g8, g9, g10, g11, g12⟩
    change a ≤ x1 at g1; change x1 ≤ a at g2; change b ≤ x2 at g3; change x2 ≤ b at g4; change c ≤ x3 at g5; change x3 ≤ c at g6
    obtain rfl : x1 = a := by omega
    obtain rfl : x2 = b := by omega
    obtain rfl : x3 = c := by omega
    exact ⟨rfl, w1, w2, w3, w4, w5, w6, g7, g8, g9, g10, g11, g12⟩
  · rintro ⟨e, _, _, _, _, _, _, g7, g8, g9, g10, g11, g12⟩
    cases e
    exact ⟨Int.le_refl _, Int.le_refl _, Int.le_refl _, Int.le_refl _, Int.le_refl _, Int.le_refl _, g7, g8, g9, g10, g11, g12⟩
theorem alone_ok {p : Pl} (ok : PlOK p = true) {a b c : Int} (h : hrIn p a b c = true) : PlOK (aloneP p a b c) = true := by
  obtain ⟨⟨w1, w2⟩, ⟨w3, w4⟩, w5, w6⟩ := hrIn_iff.1 h
  exact nar_ok (nar_ok (nar_ok ok 0 (win_ok ok (k := 0) (by omega) w1 (Int.le_refl _) w2)) 1 (win_ok ok (k := 1) (by omega) w3 (Int.le_refl _) w4)) 2 (win_ok ok (k := 2) (by omega) w5 (Int.le_refl _) w6)
theorem alone_all (p : Pl) (a b c : Int) : allC (aloneP p a b c) = allC p := by unfold aloneP; rw [nar_all, nar_all, nar_all]
theorem alone_len (p : Pl) (a b c : Int) : (aloneP p a b c).scenes.length = p.scenes.length := by unfold aloneP; rw [nar_len, nar_len, nar_len]
theorem alone_can {p : Pl} {l : List Nat} (ok : PlOK p = true) (cv : CV p l) {a b c : Int} (h : hrIn p a b c = true) : canP (aloneP p a b c) l = fitsP p l [a, b, c] := by
  obtain ⟨gp, wp⟩ := gp_of_ok ok
  obtain ⟨gp2, wp2⟩ := gp_of_ok (alone_ok ok h)
  have cv2 : CV (aloneP p a b c) l := ⟨cv.len, fun x hx => by rw [alone_len]; exact cv.rng x hx⟩
  rw [canP_can wp2 cv2, Bool.eq_iff_iff, can_fit wp2 cv2, ← fit_fits wp cv h]
  constructor
  · rintro ⟨x, y, z, f⟩; exact ((alone_fit h (x := (x, y, z))).1 f).2
  · intro f; exact ⟨a, b, c, (alone_fit h (x := (a, b, c))).2 ⟨rfl, f⟩⟩
theorem alone_poss {p : Pl} (ok : PlOK p = true) {a b c : Int} (h : hrIn p a b c = true) : decide (0 < (choicesC (aloneP p a b c)).length) = !missH p [a, b, c] := by
  obtain ⟨gp, wp⟩ := gp_of_ok ok
  obtain ⟨gp2, wp2⟩ := gp_of_ok (alone_ok ok h)
  unfold missH
  rw [Bool.not_not, Bool.eq_iff_iff, decide_eq_true_eq, poss_iff gp2 wp2, List.any_eq_true]
  constructor
  · rintro ⟨l, hl, x, f⟩
    rw [alone_all] at hl
    exact ⟨l, hl, (fit_fits wp (allC_mem gp l hl) h).1 ((alone_fit h).1 f).2⟩
  · rintro ⟨l, hl, f⟩
    exact ⟨l, by rw [alone_all]; exact hl, (a, b, c), (alone_fit h).2 ⟨rfl, (fit_fits wp (allC_mem gp l hl) h).2 f⟩⟩
theorem sure_fits {p : Pl} {l : List Nat} (wp : WP p) (cv : CV p l) (hs : sureP p l = true) {a b c : Int} (h : hrIn p a b c = true) : fitsP p l [a, b, c] = true := by
  obtain ⟨⟨w1, w2⟩, ⟨w3, w4⟩, w5, w6⟩ := hrIn_iff.1 h
  unfold sureP at hs
  rw [okAll_iff] at hs
  have g0 := hs 0 (by omega); have g1 := hs 1 (by omega); have g2 := hs 2 (by omega)
  simp only [suBad, Bool.or_eq_false_iff, decide_eq_false_iff_not] at g0 g1 g2
  have g0 : ¬ (p.s0l - p.beg < pl p l 0) ∧ ¬ (ph p l 0 < p.s0h - p.beg) := g0
  have g1 : ¬ (p.s1l - p.s0h < pl p l 1) ∧ ¬ (ph p l 1 < p.s1h - p.s0l) := g1
  have g2 : ¬ (p.dl - p.s1h < pl p l 2) ∧ ¬ (ph p l 2 < p.dh - p.s1l) := g2
  have e0 : pl p l 0 = lo p l 0 0 10 := pl_lo wp cv 0
  have e1 : pl p l 1 = lo p l 1 0 10 := pl_lo wp cv 1
  have e2 : pl p l 2 = lo p l 2 0 10 := pl_lo wp cv 2
  have f0 : ph p l 0 = hi p l 0 0 10 := ph_hi wp cv 0
  have f1 : ph p l 1 = hi p l 1 0 10 := ph_hi wp cv 1
  have f2 : ph p l 2 = hi p l 2 0 10 := ph_hi wp cv 2
  rw [fits3 wp cv]
  simp only [inn, Bool.and_eq_true, decide_eq_true_eq]
  omega
theorem ms_mem {p : Pl} (wp : WP p) {h : List Int} : h ∈ msAll p ↔ ∃ a b c, h = [a, b, c] ∧ hrIn p a b c = true := by
  have w0 := wp.s0; have w1 := wp.s1; have w2 := wp.d
  unfold msAll
  rw [mem_fm]
  constructor
  · rintro ⟨i, hi, h⟩
    obtain ⟨j, hj, h⟩ := mem_fm.1 h
    obtain ⟨k, hk, h⟩ := mem_fm.1 h
    unfold msC at h
    simp only [List.mem_singleton] at h
    unfold wid at hi hj hk
    exact ⟨_, _, _, h, hrIn_iff.2 (by omega)⟩
  · rintro ⟨a, b, c, rfl, h⟩
    obtain ⟨⟨w1, w2⟩, ⟨w3, w4⟩, w5, w6⟩ := hrIn_iff.1 h
    refine ⟨(a - p.s0l).toNat, by unfold wid; omega, mem_fm.2 ⟨(b - p.s1l).toNat, by unfold wid; omega, mem_fm.2 ⟨(c - p.dl).toNat, by unfold wid; omega, ?_⟩⟩⟩
    unfold msC
    simp only [List.mem_singleton, List.cons.injEq, and_true]
    omega
theorem ms_order (p : Pl) : (msAll p).Pairwise fun x y => lexB x y = true := by
  refine fm_pairwise (fun i _ => ?_) fun i i' hi _ x hx y hy => ?_
  · refine fm_pairwise (fun j _ => ?_) fun j j' hj _ x hx y hy => ?_
    · refine fm_pairwise (fun k _ => by simp [msC]) fun k k' hk _ x hx y hy => ?_
      unfold msC at hx hy
      simp only [List.mem_singleton] at hx hy
      subst hx hy
      simp only [lexB, if_true]
      rw [if_neg (by omega)]; exact decide_eq_true (by omega)
    · obtain ⟨k, _, hx⟩ := mem_fm.1 hx
      obtain ⟨k', _, hy⟩ := mem_fm.1 hy
      unfold msC at hx hy
      simp only [List.mem_singleton] at hx hy
      subst hx hy
      simp only [lexB, if_true]
      rw [if_neg (by omega)]; exact decide_eq_true (by omega)
  · obtain ⟨j, _, hx⟩ := mem_fm.1 hx
    obtain ⟨k, _, hx⟩ := mem_fm.1 hx
    obtain ⟨j', _, hy⟩ := mem_fm.1 hy
    obtain ⟨k', _, hy⟩ := mem_fm.1 hy
    unfold msC at hx hy
    simp only [List.mem_singleton] at hx hy
    subst hx hy
    simp only [lexB]
    rw [if_neg (by omega)]; exact decide_eq_true (by omega)
theorem missed_spec {p : Pl} (wp : WP p) {m : List Int} (h : missed p = some m) : (∃ a b c, m = [a, b, c] ∧ hrIn p a b c = true) ∧ missH p m = true ∧ ∀ x ∈ msAll p, missH p x = true → lexB x m = false := by
  have hm := List.mem_of_find?_eq_some h
  refine ⟨(ms_mem wp).1 hm, List.find?_some h, fun x hx hxm => ?_⟩
  obtain ⟨h1, i, hi, e, h2⟩ := List.find?_eq_some_iff_getElem.1 h
  obtain ⟨j, hj, ej⟩ := List.getElem_of_mem hx
  rcases Nat.lt_trichotomy j i with c | c | c
  · have := h2 j c
    rw [ej, hxm] at this; cases this
  · subst c; rw [← ej, ← e]; exact lexB_self _
  · rw [← ej, ← e]; exact lexB_asymm (List.pairwise_iff_getElem.1 (ms_order p) i j hi hj c)
theorem missed_none {p : Pl} (wp : WP p) (h : missed p = none) {a b c : Int} (hh : hrIn p a b c = true) : missH p [a, b, c] = false := by
  have := List.find?_eq_none.1 h _ ((ms_mem wp).2 ⟨a, b, c, rfl, hh⟩)
  simpa using this
theorem surest_first {p : Pl} {s l : List Nat} (h : surest p = some s) (hl : l ∈ allC p) (hs : sureP p l = true) : soonB (up l) (up s) = false := by
  obtain ⟨h1, i, hi, e, h2⟩ := List.find?_eq_some_iff_getElem.1 h
  obtain ⟨j, hj, ej⟩ := List.getElem_of_mem hl
  rcases Nat.lt_trichotomy j i with c | c | c
  · have := h2 j c
    rw [ej, hs] at this; cases this
  · subst c; rw [← ej, ← e]; exact soonB_self _
  · rw [← ej, ← e]; exact soonB_asymm (List.pairwise_iff_getElem.1 (allC_orderB p) i j hi hj c)
set_option maxHeartbeats 1000000 in
theorem ralone_pure (p : Pl) (a b c : Int) : APure Tryz.prog 81 [plan p, ints [a, b, c]] (plan (aloneP p a b c)) := by
  refine apure_of (rs := [.cell 4 27]) Tryz.func81 rfl rfl (Nat.le_of_ble_eq_true rfl) (by simp [AV.pureL, AV.pureB, AV.pureE, pureE_map]) (by simp [AV.pureL, AV.pureB, AV.pureE, pureE_map]) fun e0 he0 => ?_
  refine aw_seq (aw_region ?_)
  refine sq_box rfl (lr _) rfl ?_
  refine sq_alloc rfl z27 ?_
  refine sq_nil (aw_seq (aw_seq (aw_region ?_)))
  refine asr (lr _) rfl ?_
  refine sq_nil (aw_block ?_)
  refine aw_loopk (ι := { k : Nat // k ≤ 3 }) [1, 2, 4] (fun k => [(5, I k.1)]) (fun H k => H.set 0 (.cells (planC (alK p a b c k.1)))) (fun k => 3 - k.1) (⟨0, by omega⟩) ⟨lr _, lr _, lr _, lr _, trivial⟩ rfl ?_
  rintro ⟨k, hk⟩
  dsimp only [keepS, St.put, sget, slotsOf, List.map_cons, List.map_nil, List.cons_append, List.nil_append, List.length_cons, List.length_nil, Nat.reduceBEq, Nat.reduceAdd, cond_true, cond_false]
  refine aw_seq (aw_seq (aw_region ?_))
  refine mvr (lr _) rfl ?_
  refine sq_ev rfl (ev_lss (lr _) (lr _)) ?_
  refine sq_nil ?_
  refine aw_cond (lr _) (fun c1 => ?_) (fun c1 => ?_)
  · skip
    have c1' := c1
    try simp only [qq] at c1'
    have hk3 : k < 3 := by omega
    have hg : [a, b, c].getD k 0 = [a, b, c][k] := getD_at (by simp; omega) 0
    have eA := alK_succ p a b c hk3
    rw [hg] at eA
    refine aw_skip (aw_seq (aw_block ?_))
    refine aw_draw 12 mo (by kernel_rfl) ?_
    refine dr_ev rfl (ev_load_agg (lr _) rfl ty27 rfl) ?_
    refine dr_ev rfl (ev_mv (v := .raw _) (lr _)) ?_
    refine dr_ev rfl (ev_mv (v := .sl _ _) (lr _)) ?_
    refine dr_ev rfl (ev_mv (v := .raw _) (lr _)) ?_
    refine dr_ev rfl (ev_index_map (k := k) sl34 (lr _) (lr _) rfl (by simp; omega)) ?_
    refine dr_ev rfl (ev_load_i (lr _) ty3 rfl) ?_
    refine dr_ev rfl (ev_mv (v := .sl _ _) (lr _)) ?_
    refine dr_ev rfl (ev_mv (v := .raw _) (lr _)) ?_
    refine dr_ev rfl (ev_index_map (k := k) sl34 (lr _) (lr _) rfl (by simp; omega)) ?_
    refine dr_ev rfl (ev_load_i (lr _) ty3 rfl) ?_
    refine dr_ev rfl (ev_call en41 (lr _) (rspan_pure _ _) ⟨lr _, lr _, trivial⟩) ?_
    refine dr_ev rfl (ev_call en40 (lr _) (rnar_pure (alK p a b c k) k hk3 _ _) ⟨lr _, lr _, lr _, trivial⟩) ?_
    refine dr_end ?_
    refine sq_store rfl (lr _) (lr _) rfl rfl ty27 rfl rfl ?_
    refine sq_nil (aw_region ?_)
    refine mvr (lr _) rfl ?_
    refine sq_ev rfl (ev_add (lr _) (lr _) (wr (by omega) (by omega))) ?_
    refine asr (lr _) rfl ?_
    refine sq_nil ?_
    exact ⟨⟨k + 1, by omega⟩, by simp only; omega, Sub.fin 2 ⟨lr _, lr _, lr _, lr _, trivial⟩ (congrArg (fun q => [AObj.cells (planC q), _]) eA.symm) (by simp [slotsIn, objsIn, sget, keepS, AObj.inB, AV.inB, AV.inL, AV.inE, inE_map, inE_ints, inE_sc, -List.map_append, -List.map_take, -List.map_map]) (by simp [slotsIn, objsIn, sget, keepS, AObj.inB, AV.inB, AV.inL, AV.inE, inE_map, inE_ints, inE_sc, -List.map_append, -List.map_take, -List.map_map]) (by simp [he0])⟩
  · skip
    have c1' := c1
    try simp only [qq] at c1'
    obtain rfl : k = 3 := by omega
    refine aw_exit (aw_seq (aw_region ?_))
    refine sq_ev rfl (ev_load_agg (lr _) rfl ty27 rfl) ?_
    refine sq_store rfl (lr _) (lr _) rfl rfl ty27 rfl rfl ?_
    refine sq_nil (aw_ret ?_)
    exact retQ_res (vs := [.agg _]) rfl rfl ⟨resVar_cell rfl rfl ty27 rfl, trivial⟩ (lr _)
set_option maxHeartbeats 1000000 in
theorem rhours_pure (p : Pl) (a b c : Int) : APure Tryz.prog 80 [plan p, ints [a, b, c]] (B (hrIn p a b c)) := by
 refine apure_of (rs := [.tmp 4]) Tryz.func80 rfl rfl (Nat.le_of_ble_eq_true rfl) (by simp [AV.pureL, AV.pureB, AV.pureE, pureE_map]) (rfl) fun e0 he0 => ?_
 refine aw_seq (aw_region ?_)
 refine sq_box rfl (lr _) rfl ?_
 refine asr (lr _) rfl ?_
 refine sq_nil (aw_seq ?_)
 refine aw_draw 30 mo (by kernel_rfl) ?_
 refine dr_ev rfl (ev_mv (v := .sl _ _) (lr _)) ?_
 refine dr_ev rfl (ev_len_map sl34 (lr _)) ?_
 refine dr_ev rfl (ev_eql (lr _) (lr _)) ?_
 refine dr_ev rfl (ev_mv (v := .raw _) (lr _)) ?_
 refine dr_split 8 (lr _) (fun g1 => ?_) (fun g1 => ?_)
 ·
  have g1' := g1
  try simp only [qq] at g1'
  refine dr_yes rfl rfl (less_b g1) rfl (ev_mv (v := .sl _ _) (lr _)) ?_
  refine dr_yes rfl rfl (less_b g1) rfl (ev_index_map (k := 0) sl34 (lr _) (lr _) rfl (by simp)) ?_
  refine dr_yes rfl rfl (less_b g1) rfl (ev_load_i (lr _) ty3 rfl) ?_
  refine dr_yes rfl rfl (less_b g1) rfl (ev_fieldAddr fo27_1 (lr _)) ?_
  refine dr_yes rfl rfl (less_b g1) rfl (ev_index_box ar24 (lr _) (lr _) rfl (by decide)) ?_
  refine dr_yes rfl rfl (less_b g1) rfl (ev_load_agg (lr _) rfl ty23 rfl) ?_
  refine dr_yes rfl rfl (less_b g1) rfl (ev_call en111 (lr _) (within_pure _ _ _) ⟨lr _, lr _, trivial⟩) ?_
  refine dr_ev rfl (ev_pickT (v := .raw _) (less_b g1) (lr _)) ?_
  refine dr_ev rfl (ev_mv (v := .raw _) (lr _)) ?_
  refine dr_split 17 (lr _) (fun g2 => ?_) (fun g2 => ?_)
  ·
   have g2' := g2
   try simp only [qq] at g2'
   have q2 : inn a p.s0l p.s0h = true := g2
   refine dr_yes rfl rfl (less_b g2) rfl (ev_mv (v := .sl _ _) (lr _)) ?_
   refine dr_yes rfl rfl (less_b g2) rfl (ev_index_map (k := 1) sl34 (lr _) (lr _) rfl (by simp)) ?_
   refine dr_yes rfl rfl (less_b g2) rfl (ev_load_i (lr _) ty3 rfl) ?_
   refine dr_yes rfl rfl (less_b g2) rfl (ev_fieldAddr fo27_1 (lr _)) ?_
   refine dr_yes rfl rfl (less_b g2) rfl (ev_index_box ar24 (lr _) (lr _) rfl (by decide)) ?_
   refine dr_yes rfl rfl (less_b g2) rfl (ev_load_agg (lr _) rfl ty23 rfl) ?_
   refine dr_yes rfl rfl (less_b g2) rfl (ev_call en111 (lr _) (within_pure _ _ _) ⟨lr _, lr _, trivial⟩) ?_
   refine dr_ev rfl (ev_pickT (v := .raw _) (less_b g2) (lr _)) ?_
   refine dr_ev rfl (ev_mv (v := .raw _) (lr _)) ?_
   refine dr_split 26 (lr _) (fun g3 => ?_) (fun g3 => ?_)
   ·
    have g3' := g3
    try simp only [qq] at g3'
    have q3 : inn b p.s1l p.s1h = true := g3
    refine dr_yes rfl rfl (less_b g3) rfl (ev_mv (v := .sl _ _) (lr _)) ?_
    refine dr_yes rfl rfl (less_b g3) rfl (ev_index_map (k := 2) sl34 (lr _) (lr _) rfl (by simp)) ?_
    refine dr_yes rfl rfl (less_b g3) rfl (ev_load_i (lr _) ty3 rfl) ?_
    refine dr_yes rfl rfl (less_b g3) rfl (ev_fieldAddr fo27_2 (lr _)) ?_
    refine dr_yes rfl rfl (less_b g3) rfl (ev_load_agg (lr _) rfl ty23 rfl) ?_
    refine dr_yes rfl rfl (less_b g3) rfl (ev_call en111 (lr _) (within_pure _ _ _) ⟨lr _, lr _, trivial⟩) ?_
    refine dr_ev rfl (ev_pickT (v := .raw _) (less_b g3) (lr _)) ?_
    refine dr_ev rfl (ev_as (v := .raw _) (lr _)) ?_
    refine dr_end (sq_nil (aw_ret ?_))
    exact retQ_pure (v := .raw _) rfl rfl (Less.eq (by simp [hrIn, *]))
   ·
    have g3' := g3
    try simp only [qq] at g3'
    have q3 : inn b p.s1l p.s1h = false := g3
    refine dr_no rfl rfl (less_b g3) rfl rfl ?_
    refine dr_no rfl rfl (less_b g3) rfl rfl ?_
    refine dr_no rfl rfl (less_b g3) rfl rfl ?_
    refine dr_no rfl rfl (less_b g3) rfl rfl ?_
    refine dr_no rfl rfl (less_b g3) rfl rfl ?_
    refine dr_no rfl rfl (less_b g3) rfl rfl ?_
    refine dr_ev rfl (ev_pickF (v := .raw _) (less_b g3) (lr _)) ?_
    refine dr_ev rfl (ev_as (v := .raw _) (lr _)) ?_
    refine dr_end (sq_nil (aw_ret ?_))
    exact retQ_pure (v := .raw _) rfl rfl (Less.eq (by simp [hrIn, *]))
  ·
   have g2' := g2
   try simp only [qq] at g2'
   have q2 : inn a p.s0l p.s0h = false := g2
   refine dr_no rfl rfl (less_b g2) rfl rfl ?_
   refine dr_no rfl rfl (less_b g2) rfl rfl ?_
   refine dr_no rfl rfl (less_b g2) rfl rfl ?_
   refine dr_no rfl rfl (less_b g2) rfl rfl ?_
   refine dr_no rfl rfl (less_b g2) rfl rfl ?_
   refine dr_no rfl rfl (less_b g2) rfl rfl ?_
   refine dr_no rfl rfl (less_b g2) rfl rfl ?_
   refine dr_ev rfl (ev_pickF (v := .raw _) (less_b g2) (lr _)) ?_
   refine dr_ev rfl (ev_mv (v := .raw _) (lr _)) ?_
   refine dr_no rfl rfl (lr _) rfl rfl ?_
   refine dr_no rfl rfl (lr _) rfl rfl ?_
   refine dr_no rfl rfl (lr _) rfl rfl ?_
   refine dr_no rfl rfl (lr _) rfl rfl ?_
   refine dr_no rfl rfl (lr _) rfl rfl ?_
   refine dr_no rfl rfl (lr _) rfl rfl ?_
   refine dr_ev rfl (ev_pickF (v := .raw _) (lr _) (lr _)) ?_
   refine dr_ev rfl (ev_as (v := .raw _) (lr _)) ?_
   refine dr_end (sq_nil (aw_ret ?_))
   exact retQ_pure (v := .raw _) rfl rfl (Less.eq (by simp [hrIn, *]))
 ·
  have g1' := g1
  try simp only [qq] at g1'
  exfalso; simp at g1
set_option maxHeartbeats 1000000 in
theorem rearlier_pure (a b : List Int) (ha : a.length = 3) (hb : b.length = 3) : APure Tryz.prog 82 [ints a, ints b] (B (lexB a b)) := by
 refine apure_of (rs := [.tmp 4]) Tryz.func82 rfl rfl (Nat.le_of_ble_eq_true rfl) (by simp [AV.pureL, AV.pureB, AV.pureE, pureE_map]) (rfl) fun e0 he0 => ?_
 refine aw_seq (aw_region ?_)
 refine asr (lr _) rfl ?_
 refine sq_nil (aw_seq (aw_seq (aw_region ?_)))
 refine asr (lr _) rfl ?_
 refine sq_nil (aw_block ?_)
 refine aw_loopk (ι := { k : Nat // k ≤ 3 ∧ ∀ j, (h : j < a.length) → (h2 : j < b.length) → j < k → a[j] = b[j] }) [0, 1] (fun k => [(5, I k.1)]) (fun H k => H) (fun k => 3 - k.1) (⟨0, by omega, by omega⟩) ⟨lr _, lr _, lr _, trivial⟩ rfl ?_
 rintro ⟨k, hk, hok⟩
 dsimp only [keepS, St.put, sget, slotsOf, List.map_cons, List.map_nil, List.cons_append, List.nil_append, List.length_cons, List.length_nil, Nat.reduceBEq, Nat.reduceAdd, cond_true, cond_false]
 refine aw_seq (aw_seq (aw_region ?_))
 refine mvr (lr _) rfl ?_
 refine sq_ev rfl (ev_lss (lr _) (lr _)) ?_
 refine sq_nil ?_
 refine aw_cond (lr _) (fun c1 => ?_) (fun c1 => ?_)
 ·
  have c1' := c1
  try simp only [qq] at c1'
  have hka : k < a.length := by omega
  have hkb : k < b.length := by omega
  refine aw_skip (aw_seq (aw_block (aw_seq ?_)))
  refine aw_draw 9 mo (by kernel_rfl) ?_
  refine dr_ev rfl (ev_mv (v := .sl _ _) (lr _)) ?_
  refine dr_ev rfl (ev_mv (v := .raw _) (lr _)) ?_
  refine dr_ev rfl (ev_index_map sl34 (lr _) (lr _) rfl (by omega)) ?_
  refine dr_ev rfl (ev_load_i (lr _) ty3 rfl) ?_
  refine dr_ev rfl (ev_mv (v := .sl _ _) (lr _)) ?_
  refine dr_ev rfl (ev_mv (v := .raw _) (lr _)) ?_
  refine dr_ev rfl (ev_index_map sl34 (lr _) (lr _) rfl (by omega)) ?_
  refine dr_ev rfl (ev_load_i (lr _) ty3 rfl) ?_
  refine dr_ev rfl (ev_neq (lr _) (lr _)) ?_
  refine dr_end (sq_nil ?_)
  refine aw_cond (lr _) (fun c2 => ?_) (fun c2 => ?_)
  ·
   have c2' := c2
   try simp only [qq] at c2'
   refine aw_seq ?_
   refine aw_draw 10 mo (by kernel_rfl) ?_
   refine dr_ev rfl (ev_mv (v := .sl _ _) (lr _)) ?_
   refine dr_ev rfl (ev_mv (v := .raw _) (lr _)) ?_
   refine dr_ev rfl (ev_index_map sl34 (lr _) (lr _) rfl (by omega)) ?_
   refine dr_ev rfl (ev_load_i (lr _) ty3 rfl) ?_
   refine dr_ev rfl (ev_mv (v := .sl _ _) (lr _)) ?_
   refine dr_ev rfl (ev_mv (v := .raw _) (lr _)) ?_
   refine dr_ev rfl (ev_index_map sl34 (lr _) (lr _) rfl (by omega)) ?_
   refine dr_ev rfl (ev_load_i (lr _) ty3 rfl) ?_
   refine dr_ev rfl (ev_lss (lr _) (lr _)) ?_
   refine dr_ev rfl (ev_as (v := .raw _) (lr _)) ?_
   refine dr_end (sq_nil (aw_ret ?_))
   exact retQ_pure (v := .raw _) rfl rfl (Less.eq (by rw [lexB_diff hka hkb (fun j hj => hok j (by omega) (by omega) hj) (by simpa using c2')]))
  ·
   have c2' := c2
   try simp only [qq] at c2'
   refine aw_skip (aw_region ?_)
   refine mvr (lr _) rfl ?_
   refine sq_ev rfl (ev_add (lr _) (lr _) (wr (by omega) (by omega))) ?_
   refine asr (lr _) rfl ?_
   refine sq_nil ?_
   exact ⟨⟨k + 1, by omega, fun j h h2 hj => (by by_cases e : j = k; (subst e; simpa using c2'); exact hok j h h2 (by omega))⟩, by simp only; omega, Sub.slots ⟨lr _, lr _, lr _, trivial⟩⟩
 ·
  have c1' := c1
  try simp only [qq] at c1'
  refine aw_exit (aw_seq (aw_region ?_))
  refine asr (lr _) rfl ?_
  refine sq_nil (aw_ret ?_)
  exact retQ_pure (v := .raw _) rfl rfl (Less.eq (by rw [lexB_same (by omega) (fun j hj => hok j hj (by omega) (by omega))]))
end Go.Proofs.YtjghdbdiejaacaaGreatDoor
