/-
  A part of the proof: conditions: none beyond each theorem's own.
-/
import Derived.Test.YtjghdbdiejaacaaGreatDoorSpecA
import Derived.Test.YtjghdbdiejaacaaGreatDoorLogicC
import Derived.KernelRfl
import Derived.Lib.LaidTab
import Derived.Lib.ItoaNum
import Derived.Test.YtjghdbdiejaacaaGreatDoorProg
import Derived.Test.YtjghdbdiejaacaaGreatDoorWalkA
import Derived.Test.YtjghdbdiejaacaaGreatDoorWalkF
import Derived.Test.YtjghdbdiejaacaaGreatDoorWalkG
import Derived.ChangeKeysEq
import Derived.Test.YtjghdbdiejaacaaGreatDoorLogicD
import Derived.Test.YtjghdbdiejaacaaGreatDoorLogicA
import Derived.Test.YtjghdbdiejaacaaGreatDoorLogicB
import Derived.Test.YtjghdbdiejaacaaGreatDoorShelf
import Derived.Test.YtjghdbdiejaacaaGreatDoorWalkB
import Derived.Test.YtjghdbdiejaacaaGreatDoorWalkC
import Derived.Test.YtjghdbdiejaacaaGreatDoorWalkD
import Derived.Test.YtjghdbdiejaacaaGreatDoorWalkE
import Derived.Test.YtjghdbdiejaacaaGreatDoorRow
set_option linter.all false
set_option maxHeartbeats 8000000
namespace Ni
theorem has_yes {l : List Int} {n : Int} {k : Nat} (h : k < l.length) (e : l[k] = n) : has l n = true := by
  simp only [has, decide_eq_true_eq]; exact e ▸ List.getElem_mem h
theorem has_no {l : List Int} {n : Int} {k : Nat} (hn : ¬ (k : Int) < l.length) (h : ∀ i, (h : i < l.length) → i < k → l[i] ≠ n) : has l n = false := by
  simp only [has, decide_eq_false_iff_not]
  intro hm
  obtain ⟨j, hj, e⟩ := List.getElem_of_mem hm
  exact h j hj (by omega) e
end Ni
namespace Ni
theorem lsts_inc {n : Nat} : ∀ {m : Nat} {now : List Nat}, now.Pairwise (· < ·) → (∀ x ∈ now, x < nxt now) → ∀ l ∈ lsts n m now, l.Pairwise (· < ·)
  | 0, now, h, _, l, hl => by
    simp only [lsts, List.mem_singleton] at hl
    subst hl; exact h
  | m + 1, now, h, hx, l, hl => by
    simp only [lsts] at hl
    obtain ⟨i, _, hl⟩ := mem_fm.1 hl
    refine lsts_inc (m := m) (now := now ++ [nxt now + i]) ?_ ?_ l hl
    · rw [List.pairwise_append]
      refine ⟨h, by simp, fun a ha b hb => ?_⟩
      simp only [List.mem_singleton] at hb
      have := hx a ha; omega
    · intro x hm
      rw [nxt_app]
      rcases List.mem_append.1 hm with hm | hm
      · have := hx x hm; omega
      · simp only [List.mem_singleton] at hm; omega
theorem allC_inc {p : Pl} {l : List Nat} (h : l ∈ allC p) : l.Pairwise (· < ·) := by
  obtain ⟨i, _, h⟩ := mem_fm.1 h
  unfold aA aL at h
  exact lsts_inc List.Pairwise.nil (by simp) l (List.mem_filter.1 h).1
def FitH (p : Pl) (l : List Nat) (h : Hr) : Prop := Fit p l h.1 h.2.1 h.2.2
section
variable {p : Pl} {l : List Nat}
end
section
variable {p : Pl} {l : List Nat} (wp : WP p) (cv : CV p l) (hc : can p l = true)
include wp cv hc
end
end Ni
namespace Ni
theorem nxt_lt {now : List Nat} {x : Nat} (h : ∀ y ∈ now, y < x) : nxt now ≤ x := nxt_le h
theorem mem_lsts {n : Nat} : ∀ (r now : List Nat), (now ++ r).Pairwise (· < ·) → (∀ x ∈ r, x < n) → now ++ r ∈ lsts n r.length now
  | [], now, _, _ => by simp [lsts]
  | x :: r, now, h, hx => by
    have h1 : nxt now ≤ x := nxt_lt fun y hy => by
      rw [List.pairwise_append] at h
      exact h.2.2 y hy x (by simp)
    have h2 := hx x (by simp)
    simp only [List.length_cons, lsts]
    refine mem_fm.2 ⟨x - nxt now, by omega, ?_⟩
    rw [show nxt now + (x - nxt now) = x by omega]
    have := mem_lsts r (now ++ [x]) (by simpa using h) fun y hy => hx y (List.mem_cons_of_mem _ hy)
    simpa using this
theorem inc_len {n : Nat} {l : List Nat} (h : l.Pairwise (· < ·)) (hx : ∀ x ∈ l, x < n) : l.length ≤ n := by
  have key : ∀ i (hi : i < l.length), i ≤ l[i] := by
    intro i
    induction i with
    | zero => intro _; omega
    | succ i ih =>
      intro hi
      have h1 := ih (by omega)
      have h2 := List.pairwise_iff_getElem.1 h i (i + 1) (by omega) hi (by omega)
      omega
  rcases Nat.eq_zero_or_pos l.length with h0 | h0
  · omega
  · have h1 := key (l.length - 1) (by omega)
    have h2 := hx _ (List.getElem_mem (show l.length - 1 < l.length by omega))
    omega
theorem mem_allC {p : Pl} {l : List Nat} (h : l.Pairwise (· < ·)) (hx : ∀ x ∈ l, x < p.scenes.length) (hc : isC p l = true) : l ∈ allC p := by
  have hl := inc_len h hx
  refine mem_fm.2 ⟨p.scenes.length - l.length, by omega, ?_⟩
  unfold aA aL
  rw [show p.scenes.length - (p.scenes.length - l.length) = l.length by omega]
  exact List.mem_filter.2 ⟨by simpa using mem_lsts (n := p.scenes.length) l [] (by simpa using h) hx, hc⟩
theorem allC_iff {p : Pl} {l : List Nat} : l ∈ allC p ↔ l.Pairwise (· < ·) ∧ (∀ x ∈ l, x < p.scenes.length) ∧ isC p l = true := by
  constructor
  · intro h
    refine ⟨allC_inc h, ?_⟩
    obtain ⟨i, _, h⟩ := mem_fm.1 h
    unfold aA aL at h
    obtain ⟨h1, h2⟩ := List.mem_filter.1 h
    exact ⟨(lsts_mem (by simp) l h1).2, h2⟩
  · rintro ⟨h1, h2, h3⟩; exact mem_allC h1 h2 h3
theorem lsts_pre {n : Nat} : ∀ {m : Nat} {now l : List Nat}, l ∈ lsts n m now → ∃ r, l = now ++ r
  | 0, now, l, h => by simp only [lsts, List.mem_singleton] at h; exact ⟨[], by simp [h]⟩
  | m + 1, now, l, h => by
    simp only [lsts] at h
    obtain ⟨i, _, h⟩ := mem_fm.1 h
    obtain ⟨r, hr⟩ := lsts_pre h
    exact ⟨(nxt now + i) :: r, by rw [hr]; simp⟩
theorem fm_pairwise {α : Type} {R : α → α → Prop} {n : Nat} {f : Nat → List α} (h1 : ∀ i, i < n → (f i).Pairwise R) (h2 : ∀ i j, i < j → j < n → ∀ a ∈ f i, ∀ b ∈ f j, R a b) : (fm n f).Pairwise R := by
  induction n with
  | zero => exact List.Pairwise.nil
  | succ n ih =>
    rw [fm_succ, List.pairwise_append]
    refine ⟨ih (fun i hi => h1 i (by omega)) (fun i j hij hj => h2 i j hij (by omega)), h1 n (by omega), fun a ha b hb => ?_⟩
    obtain ⟨i, hi, ha⟩ := mem_fm.1 ha
    exact h2 i n hi (by omega) a ha b hb
theorem aA_len2 {p : Pl} {i : Nat} {l : List Nat} (h : l ∈ aA p i) : l.length = p.scenes.length - i := by
  have := (lsts_mem (by simp) l (List.mem_filter.1 h).1).1
  simpa using this
end Ni
namespace Ni
def lexB : List Int → List Int → Bool
  | x :: a, y :: b => if x = y then lexB a b else decide (x < y)
  | _, _ => false
def soonB (a b : List Int) : Bool := if a.length ≠ b.length then decide (b.length < a.length) else lexB a b
theorem lexB_at {u v : Int} {x y : List Int} (h : u ≠ v) : ∀ c : List Int, lexB (c ++ u :: x) (c ++ v :: y) = decide (u < v)
  | [] => by simp [lexB, h]
  | z :: c => by simp [lexB, lexB_at h c]
theorem lexB_self : ∀ a : List Int, lexB a a = false
  | [] => rfl
  | x :: a => by simp [lexB, lexB_self a]
theorem soonB_self (a : List Int) : soonB a a = false := by unfold soonB; rw [if_neg (by simp)]; exact lexB_self a
theorem lsts_lexB {n : Nat} : ∀ (m : Nat) (now : List Nat), (lsts n m now).Pairwise fun a b => lexB (up a) (up b) = true
  | 0, now => by simp [lsts]
  | m + 1, now => by
    simp only [lsts]
    refine fm_pairwise (fun i _ => lsts_lexB m _) fun i j hij _ a ha b hb => ?_
    obtain ⟨x, rfl⟩ := lsts_pre ha
    obtain ⟨y, rfl⟩ := lsts_pre hb
    have := lexB_at (u := ((nxt now + i : Nat) : Int)) (v := ((nxt now + j : Nat) : Int)) (x := up x) (y := up y) (by omega) (up now)
    have e1 : up (now ++ [nxt now + i] ++ x) = up now ++ ((nxt now + i : Nat) : Int) :: up x := by simp [up]
    have e2 : up (now ++ [nxt now + j] ++ y) = up now ++ ((nxt now + j : Nat) : Int) :: up y := by simp [up]
    rw [e1, e2, this]; exact decide_eq_true (by omega)
theorem allC_orderB (p : Pl) : (allC p).Pairwise fun a b => soonB (up a) (up b) = true := by
  refine fm_pairwise (fun i _ => ?_) fun i j hij hj a ha b hb => ?_
  · unfold aA
    refine List.Pairwise.filter _ ?_
    unfold aL
    refine List.Pairwise.imp_of_mem ?_ (lsts_lexB _ _)
    intro a b ha hb hab
    have h1 := (lsts_mem (by simp) a ha).1
    have h2 := (lsts_mem (by simp) b hb).1
    unfold soonB
    rw [if_neg (by simp [up]; omega)]
    exact hab
  · have h1 := aA_len2 ha
    have h2 := aA_len2 hb
    unfold soonB
    rw [if_pos (by simp [up]; omega)]
    simp [up]; omega
theorem inc_ext : ∀ {l m : List Nat}, l.Pairwise (· < ·) → m.Pairwise (· < ·) → (∀ x, x ∈ l ↔ x ∈ m) → l = m
  | [], [], _, _, _ => rfl
  | [], y :: m, _, _, h => by have := (h y).2 (by simp); cases this
  | x :: l, [], _, _, h => by have := (h x).1 (by simp); cases this
  | x :: l, y :: m, hl, hm, h => by
    rw [List.pairwise_cons] at hl hm
    have e : x = y := by
      rcases List.mem_cons.1 ((h x).1 (by simp)) with h1 | h1
      · exact h1
      · rcases List.mem_cons.1 ((h y).2 (by simp)) with h2 | h2
        · exact h2.symm
        · have := hm.1 x h1; have := hl.1 y h2; omega
    subst e
    congr 1
    refine inc_ext hl.2 hm.2 fun z => ⟨fun hz => ?_, fun hz => ?_⟩
    · rcases List.mem_cons.1 ((h z).1 (List.mem_cons_of_mem _ hz)) with h1 | h1
      · subst h1; have := hl.1 z hz; omega
      · exact h1
    · rcases List.mem_cons.1 ((h z).2 (List.mem_cons_of_mem _ hz)) with h1 | h1
      · subst h1; have := hm.1 z hz; omega
      · exact h1
def subsL : List Nat → List (List Nat)
  | [] => [[]]
  | x :: xs => subsL xs ++ (subsL xs).map (x :: ·)
theorem subsL_len : ∀ l, (subsL l).length = 2 ^ l.length
  | [] => rfl
  | x :: l => by rw [subsL, List.length_append, List.length_map, subsL_len l, List.length_cons, Nat.pow_succ]; omega
theorem mem_subsL {q : Nat → Bool} : ∀ l : List Nat, l.filter q ∈ subsL l
  | [] => by simp [subsL]
  | x :: l => by
    rw [List.filter_cons, subsL]
    split
    · exact List.mem_append_right _ (List.mem_map.2 ⟨_, mem_subsL l, rfl⟩)
    · exact List.mem_append_left _ (mem_subsL l)
theorem nodup_len {α : Type} [DecidableEq α] : ∀ {l m : List α}, l.Nodup → (∀ x ∈ l, x ∈ m) → l.length ≤ m.length
  | [], _, _, _ => Nat.zero_le _
  | x :: l, m, hn, hs => by
    rw [List.nodup_cons] at hn
    have hx := hs x (by simp)
    have h1 := nodup_len (l := l) (m := m.erase x) hn.2 fun y hy => by
      have hne : y ≠ x := fun e => hn.1 (e ▸ hy)
      exact (List.mem_erase_of_ne hne).2 (hs y (List.mem_cons_of_mem _ hy))
    rw [List.length_erase_of_mem hx] at h1
    have := List.length_pos_of_mem hx
    simp only [List.length_cons]; omega
def looseL (p : Pl) : List Nat := (List.range p.scenes.length).filter fun x => (scn p x).loose
theorem looseL_len (p : Pl) : (looseL p).length = loosies p.scenes := by
  unfold looseL loosies
  have key : ∀ l : List Sc, ((List.range l.length).filter fun x => (l.getD x default).loose).length = l.countP (·.loose) := by
    intro l
    induction l with
    | nil => rfl
    | cons a l ih =>
      rw [List.length_cons, List.range_succ_eq_map, List.filter_cons, List.countP_cons]
      have e : ((List.map Nat.succ (List.range l.length)).filter fun x => ((a :: l).getD x default).loose).length = ((List.range l.length).filter fun x => (l.getD x default).loose).length := by
        rw [List.filter_map, List.length_map]; rfl
      have e0 : (a :: l).getD 0 default = a := rfl
      rw [e0]
      split
      · rw [List.length_cons, e, ih]
      · rw [e, ih]; rfl
  exact key p.scenes
theorem allC_has {p : Pl} {l : List Nat} (h : l ∈ allC p) {x : Nat} (hx : x < p.scenes.length) (hl : (scn p x).loose = false) : x ∈ l := by
  obtain ⟨_, _, hc⟩ := allC_iff.1 h
  unfold isC isCh at hc
  rw [okAll_iff] at hc
  have := hc x hx
  simp only [chBad, Bool.or_eq_false_iff, Bool.and_eq_false_iff, Bool.not_eq_false'] at this
  rw [scn_eq hx] at hl
  rcases this.1 with g | g
  · simp only [has, up, decide_eq_true_eq, List.mem_map] at g
    obtain ⟨y, hy, e⟩ := g
    obtain rfl : y = x := by omega
    exact hy
  · rw [hl] at g; cases g
theorem allC_64 {p : Pl} (ok : PlOK p = true) : (allC p).length ≤ 64 := by
  have hlo : (looseL p).length ≤ 6 := by
    rw [looseL_len]
    simp only [PlOK, Bool.and_eq_true, decide_eq_true_eq] at ok
    exact ok.2.2
  have hp : (looseL p).Pairwise (· < ·) := List.Pairwise.filter _ List.pairwise_lt_range
  have hf : ∀ l ∈ allC p, l.filter (fun x => (scn p x).loose) = (looseL p).filter fun x => decide (x ∈ l) := fun l hl => by
    obtain ⟨h1, h2, h3⟩ := allC_iff.1 hl
    refine inc_ext (h1.filter _) (hp.filter _) fun x => ?_
    simp only [List.mem_filter, looseL, List.mem_range, decide_eq_true_eq]
    constructor
    · rintro ⟨a, b⟩; exact ⟨⟨h2 x a, b⟩, a⟩
    · rintro ⟨⟨a, b⟩, c⟩; exact ⟨c, b⟩
  have hn : (allC p).Nodup := (allC_orderB p).imp fun {a b} h e => by subst e; rw [soonB_self] at h; cases h
  have hinj : ((allC p).map fun l => l.filter fun x => (scn p x).loose).Nodup := by
    refine List.pairwise_map.2 (List.Pairwise.imp_of_mem (fun {a b} ha hb hab e => hab ?_) hn)
    obtain ⟨a1, a2, a3⟩ := allC_iff.1 ha
    obtain ⟨b1, b2, b3⟩ := allC_iff.1 hb
    refine inc_ext a1 b1 fun x => ⟨fun hx => ?_, fun hx => ?_⟩
    · cases hl : (scn p x).loose with
      | false => exact allC_has hb (a2 x hx) hl
      | true =>
        have : x ∈ a.filter fun x => (scn p x).loose := List.mem_filter.2 ⟨hx, hl⟩
        rw [e] at this; exact (List.mem_filter.1 this).1
    · cases hl : (scn p x).loose with
      | false => exact allC_has ha (b2 x hx) hl
      | true =>
        have : x ∈ b.filter fun x => (scn p x).loose := List.mem_filter.2 ⟨hx, hl⟩
        rw [← e] at this; exact (List.mem_filter.1 this).1
  have := nodup_len (m := subsL (looseL p)) hinj fun x hx => by
    obtain ⟨l, hl, rfl⟩ := List.mem_map.1 hx
    rw [hf l hl]; exact mem_subsL _
  rw [List.length_map, subsL_len] at this
  have h2 : 2 ^ (looseL p).length ≤ 2 ^ 6 := Nat.pow_le_pow_right (by decide) hlo
  omega
theorem choicesC_64 {p : Pl} (ok : PlOK p = true) : (choicesC p).length ≤ 64 := Nat.le_trans (List.length_filter_le _ _) (allC_64 ok)
end Ni
namespace Go.Proofs.YtjghdbdiejaacaaGreatDoor
open Go Go.Ab Ni
section
variable [Tabs] {c : Ctx} {ops : Array Oper} {Q : AExit → St → Prop} {i : Nat} {rest : List Oper} {s : St} {d : Option Tmp} {x y z : Operand} {t : TypeId} {p : String} {af : Array Edge} {v : Value} {j u n : Nat} {want : Bool} {l : List (List AV)}
theorem pf (hd : dOK c.nt d = true) (hx : Less (s.op x) (.raw (.bool false))) (h : Less (s.op z) (.raw v)) (k : SeqWP c ops Q (i + 1) rest (s.put d (.raw v))) : SeqWP c ops Q i (⟨d, .pick x y z, t, p, af, none⟩ :: rest) s := sq_ev hd (ev_pickF hx h) k
theorem ysl (hj : gslot ops j = some u) (ht : Nat.blt u c.nt = true) (hb : Less (sget s.sl u) (.raw (.bool want))) (hd : dOK c.nt d = true) (h : Less (s.op x) (.sl n l)) (k : SeqWP c ops Q (i + 1) rest (s.put d (.sl n l))) : SeqWP c ops Q i (⟨d, .move x, t, p, af, some (j, want)⟩ :: rest) s := sq_yes hj ht hb hd (ev_mv h) k
theorem xtr {m : List AV} {w : AV} (hd : dOK c.nt d = true) (hx : Less (s.op x) (.tup m)) (hv : m[n]? = some w) (k : SeqWP c ops Q (i + 1) rest (s.put d w)) : SeqWP c ops Q i (⟨d, .extract x n, t, p, af, none⟩ :: rest) s := sq_ev hd (ev_extract hx hv) k
theorem mvs (hd : dOK c.nt d = true) (h : Less (s.op x) (.sl n l)) (k : SeqWP c ops Q (i + 1) rest (s.put d (.sl n l))) : SeqWP c ops Q i (⟨d, .move x, t, p, af, none⟩ :: rest) s := sq_ev hd (ev_mv h) k
theorem ass (hd : dOK c.nt d = true) (h : Less (s.op x) (.sl n l)) (k : SeqWP c ops Q (i + 1) rest (s.put d (.sl n l))) : SeqWP c ops Q i (⟨d, .assign x, t, p, af, none⟩ :: rest) s := sq_ev hd (ev_as h) k
theorem ymr (hj : gslot ops j = some u) (ht : Nat.blt u c.nt = true) (hb : Less (sget s.sl u) (.raw (.bool want))) (hd : dOK c.nt d = true) (h : Less (s.op x) (.raw v)) (k : SeqWP c ops Q (i + 1) rest (s.put d (.raw v))) : SeqWP c ops Q i (⟨d, .move x, t, p, af, some (j, want)⟩ :: rest) s := sq_yes hj ht hb hd (ev_mv h) k
end
theorem en35 : Ent Tryz.prog 35 := Ent.of Tryz.func35 (by kernel_rfl) rfl
theorem en62 : Ent Tryz.prog 62 := Ent.of Tryz.func62 (by kernel_rfl) rfl
theorem en89 : Ent Tryz.prog 89 := Ent.of Tryz.func89 (by kernel_rfl) rfl
theorem en90 : Ent Tryz.prog 90 := Ent.of Tryz.func90 (by kernel_rfl) rfl
theorem en91 : Ent Tryz.prog 91 := Ent.of Tryz.func91 (by kernel_rfl) rfl
theorem in_pure (n lo hi : Int) : APure Tryz.prog 89 [I n, I lo, I hi] (B (inn n lo hi)) := by
 refine apure_of (rs := [.tmp 6]) Tryz.func89 rfl rfl (Nat.le_of_ble_eq_true rfl) (by simp [AV.pureL, AV.pureB, AV.pureE, pureE_map]) (rfl) fun e0 he0 => ?_
 refine aw_seq (aw_region ?_)
 refine asr (lr _) rfl (sq_nil (aw_seq (aw_region ?_)))
 refine mvr (lr _) rfl (mvr (lr _) rfl (sq_ev rfl (ev_geq (lr _) (lr _)) ?_))
 refine mvr (lr _) rfl ?_
 refine sq_split 10 (lr _) (fun g1 => ?_) (fun g1 => ?_)
 ·
  have g1' := g1
  try simp only [qq] at g1'
  refine sq_yes rfl rfl (less_b g1) rfl (ev_mv (v := .raw _) (lr _)) ?_
  refine sq_yes rfl rfl (less_b g1) rfl (ev_mv (v := .raw _) (lr _)) ?_
  refine sq_yes rfl rfl (less_b g1) rfl (ev_leq (lr _) (lr _)) ?_
  refine sq_ev rfl (ev_pickT (v := .raw _) (less_b g1) (lr _)) ?_
  refine asr (lr _) rfl (sq_nil (aw_ret ?_))
  exact retQ_pure (v := .raw _) rfl rfl (Less.eq (by simp [inn, *]))
 ·
  have g1' := g1
  try simp only [qq] at g1'
  refine sq_no rfl rfl (less_b g1) rfl rfl ?_
  refine sq_no rfl rfl (less_b g1) rfl rfl ?_
  refine sq_no rfl rfl (less_b g1) rfl rfl ?_
  refine sq_ev rfl (ev_pickF (v := .raw _) (less_b g1) (lr _)) ?_
  refine asr (lr _) rfl (sq_nil (aw_ret ?_))
  exact retQ_pure (v := .raw _) rfl rfl (Less.eq (by simp [inn, *]))
theorem window_pure (lo hi : Int) : APure Tryz.prog 90 [.agg [I lo, I hi]] (B (wnd lo hi)) := by
 refine apure_of (rs := [.tmp 2]) Tryz.func90 rfl rfl (Nat.le_of_ble_eq_true rfl) (by simp [AV.pureL, AV.pureB, AV.pureE, pureE_map]) (rfl) fun e0 he0 => ?_
 refine aw_seq (aw_region ?_)
 refine sq_box rfl (lr _) rfl (asr (lr _) rfl (sq_nil (aw_seq (aw_region ?_))))
 refine sq_ev rfl (ev_fieldAddr fo23_0 (lr _)) ?_
 refine sq_ev rfl (ev_load (lr _) rfl ty3 rfl) ?_
 refine sq_ev rfl (ev_call en89 (lr _) (in_pure _ _ _) ⟨lr _, lr _, lr _, trivial⟩) ?_
 refine mvr (lr _) rfl ?_
 refine sq_split 6 (lr _) (fun g1 => ?_) (fun g1 => ?_)
 ·
  have g1' := g1
  try simp only [qq] at g1'
  refine sq_yes rfl rfl (less_b g1) rfl (ev_fieldAddr fo23_1 (lr _)) ?_
  refine sq_yes rfl rfl (less_b g1) rfl (ev_load (lr _) rfl ty3 rfl) ?_
  refine sq_yes rfl rfl (less_b g1) rfl (ev_fieldAddr fo23_0 (lr _)) ?_
  refine sq_yes rfl rfl (less_b g1) rfl (ev_load (lr _) rfl ty3 rfl) ?_
  refine sq_yes rfl rfl (less_b g1) rfl (ev_call en89 (lr _) (in_pure _ _ _) ⟨lr _, lr _, lr _, trivial⟩) ?_
  refine sq_ev rfl (ev_pickT (v := .raw _) (less_b g1) (lr _)) ?_
  refine mvr (lr _) rfl ?_
  refine sq_split 13 (lr _) (fun g2 => ?_) (fun g2 => ?_)
  ·
   have g2' := g2
   try simp only [qq] at g2'
   simp only [inn, Bool.and_eq_true, decide_eq_true_eq] at g1' g2'
   refine sq_yes rfl rfl (less_b g2) rfl (ev_fieldAddr fo23_1 (lr _)) ?_
   refine sq_yes rfl rfl (less_b g2) rfl (ev_load (lr _) rfl ty3 rfl) ?_
   refine sq_yes rfl rfl (less_b g2) rfl (ev_fieldAddr fo23_0 (lr _)) ?_
   refine sq_yes rfl rfl (less_b g2) rfl (ev_load (lr _) rfl ty3 rfl) ?_
   refine sq_yes rfl rfl (less_b g2) rfl (ev_sub (lr _) (lr _) (wr (by omega) (by omega))) ?_
   refine sq_yes rfl rfl (less_b g2) rfl (ev_leq (lr _) (lr _)) ?_
   refine sq_ev rfl (ev_pickT (v := .raw _) (less_b g2) (lr _)) ?_
   refine asr (lr _) rfl (sq_nil (aw_ret ?_))
   exact retQ_pure (v := .raw _) rfl rfl (Less.eq (by simp [wnd, *]))
  ·
   have g2' := g2
   try simp only [qq] at g2'
   refine sq_no rfl rfl (less_b g2) rfl rfl ?_
   refine sq_no rfl rfl (less_b g2) rfl rfl ?_
   refine sq_no rfl rfl (less_b g2) rfl rfl ?_
   refine sq_no rfl rfl (less_b g2) rfl rfl ?_
   refine sq_no rfl rfl (less_b g2) rfl rfl ?_
   refine sq_no rfl rfl (less_b g2) rfl rfl ?_
   refine sq_ev rfl (ev_pickF (v := .raw _) (less_b g2) (lr _)) ?_
   refine asr (lr _) rfl (sq_nil (aw_ret ?_))
   exact retQ_pure (v := .raw _) rfl rfl (Less.eq (by simp [wnd, *]))
 ·
  have g1' := g1
  try simp only [qq] at g1'
  refine sq_no rfl rfl (less_b g1) rfl rfl ?_
  refine sq_no rfl rfl (less_b g1) rfl rfl ?_
  refine sq_no rfl rfl (less_b g1) rfl rfl ?_
  refine sq_no rfl rfl (less_b g1) rfl rfl ?_
  refine sq_no rfl rfl (less_b g1) rfl rfl ?_
  refine sq_ev rfl (ev_pickF (v := .raw _) (less_b g1) (lr _)) ?_
  refine mvr (lr _) rfl (sq_no rfl rfl (lr _) rfl rfl (sq_no rfl rfl (lr _) rfl rfl (sq_no rfl rfl (lr _) rfl rfl ?_)))
  refine sq_no rfl rfl (lr _) rfl rfl (sq_no rfl rfl (lr _) rfl rfl (sq_no rfl rfl (lr _) rfl rfl (pf rfl (lr _) (lr _) (asr (lr _) rfl (sq_nil (aw_ret ?_))))))
  exact retQ_pure (v := .raw _) rfl rfl (Less.eq (by simp [wnd, *]))
theorem scenes_pure (p : Pl) (hl : p.scenes.length ≤ 1000000) : APure Tryz.prog 91 [plan p] (B (decide (ScOK p.scenes))) := by
 refine apure_of (rs := [.tmp 2]) Tryz.func91 rfl rfl (Nat.le_of_ble_eq_true rfl) (by simp [AV.pureL, AV.pureB, AV.pureE, pureE_map]) (rfl) fun e0 he0 => ?_
 refine aw_seq (aw_region ?_)
 refine sq_box rfl (lr _) rfl (asr (lr _) rfl (sq_nil (aw_seq (aw_region ?_))))
 refine asr (lr _) rfl (sq_nil (aw_seq (aw_seq (aw_region ?_))))
 refine asr (lr _) rfl (sq_nil (aw_block ?_))
 refine aw_loopk (ι := { k : Nat // k ≤ p.scenes.length ∧ ∀ i, (h : i < p.scenes.length) → i < k → scBad p.scenes i h = false }) [1] (fun i => [(3, I (loosies (p.scenes.take i.1))), (4, I i.1)]) (fun H i => H) (fun i => p.scenes.length - i.1) (⟨0, Nat.zero_le _, by omega⟩) ⟨lr _, lr _, lr _, trivial⟩ rfl ?_
 rintro ⟨k, hk, hok⟩
 dsimp only [keepS, St.put, sget, slotsOf, List.map_cons, List.map_nil, List.cons_append, List.nil_append, List.length_cons, List.length_nil, Nat.reduceBEq, Nat.reduceAdd, cond_true, cond_false]
 have hlo := loosies_le (p.scenes.take k)
 have hlt := List.length_take_le k p.scenes
 refine aw_seq (aw_seq (aw_region ?_))
 refine mvr (lr _) rfl (sq_ev rfl (ev_fieldAddr fo27_3 (lr _)) ?_)
 refine sq_ev rfl (ev_load (lr _) rfl ty25 rfl) ?_
 refine sq_ev rfl (ev_len_map sl25 (lr _)) ?_
 refine sq_ev rfl (ev_lss (lr _) (lr _)) ?_
 refine sq_nil ?_
 refine aw_cond (lr _) (fun c1 => ?_) (fun c1 => ?_)
 ·
  have c1' := c1
  try simp only [qq] at c1'
  refine aw_skip (aw_seq (aw_block (aw_seq (aw_region ?_))))
  refine sq_ev rfl (ev_fieldAddr fo27_3 (lr _)) ?_
  refine sq_ev rfl (ev_load (lr _) rfl ty25 rfl) ?_
  refine mvr (lr _) rfl (sq_ev rfl (ev_index_map sl25 (lr _) (lr _) rfl (by omega)) ?_)
  refine sq_ev rfl (ev_load_agg_i (lr _) ty84 (Nat.le_of_ble_eq_true rfl)) ?_
  refine sq_alloc rfl z84 ?_
  refine sq_store rfl (lr _) (lr _) rfl rfl ty84 rfl rfl ?_
  refine sq_nil (aw_seq (aw_seq ?_))
  refine aw_draw 50 mo (by kernel_rfl) ?_
  refine dr_ev rfl (ev_fieldAddr fo84_0 (lr _)) ?_
  refine dr_ev rfl (ev_load (lr _) rfl ty3 rfl) ?_
  refine dr_ev rfl (ev_call en89 (lr _) (in_pure _ _ _) ⟨lr _, lr _, lr _, trivial⟩) ?_
  refine dr_ev rfl (ev_not (lr _)) ?_
  refine dr_ev rfl (ev_mv (v := .raw _) (lr _)) ?_
  refine dr_split 22 (lr _) (fun g2 => ?_) (fun g2 => ?_)
  ·
   have g2' := g2
   try simp only [qq] at g2'
   refine dr_no rfl rfl (less_b g2) rfl rfl ?_
   refine dr_no rfl rfl (less_b g2) rfl rfl ?_
   refine dr_no rfl rfl (less_b g2) rfl rfl ?_
   refine dr_no rfl rfl (lr _) rfl rfl (dr_no rfl rfl (lr _) rfl rfl (dr_no rfl rfl (lr _) rfl rfl (dr_no rfl rfl (lr _) rfl rfl ?_)))
   refine dr_no rfl rfl (lr _) rfl rfl (dr_no rfl rfl (lr _) rfl rfl (dr_no rfl rfl (lr _) rfl rfl (dr_no rfl rfl (lr _) rfl rfl (dr_no rfl rfl (lr _) rfl rfl (dr_no rfl rfl (lr _) rfl rfl (dr_no rfl rfl (less_b g2) rfl rfl ?_))))))
   refine dr_ev rfl (ev_pickT (v := .raw _) (less_b g2) (lr _)) ?_
   refine dr_ev rfl (ev_mv (v := .raw _) (lr _)) ?_
   refine dr_no rfl rfl (lr _) rfl rfl (dr_no rfl rfl (lr _) rfl rfl (dr_no rfl rfl (lr _) rfl rfl (dr_no rfl rfl (lr _) rfl rfl ?_)))
   refine dr_ev rfl (ev_pickT (v := .raw _) (lr _) (lr _)) ?_
   refine dr_ev rfl (ev_mv (v := .raw _) (lr _)) ?_
   refine dr_no rfl rfl (lr _) rfl rfl (dr_no rfl rfl (lr _) rfl rfl (dr_no rfl rfl (lr _) rfl rfl (dr_no rfl rfl (lr _) rfl rfl (dr_no rfl rfl (lr _) rfl rfl (dr_no rfl rfl (lr _) rfl rfl ?_)))))
   refine dr_ev rfl (ev_pickT (v := .raw _) (lr _) (lr _)) ?_
   refine dr_ev rfl (ev_mv (v := .raw _) (lr _)) ?_
   refine dr_no rfl rfl (lr _) rfl rfl ?_
   refine dr_no rfl rfl (lr _) rfl rfl (dr_no rfl rfl (lr _) rfl rfl (dr_no rfl rfl (lr _) rfl rfl (dr_no rfl rfl (lr _) rfl rfl (dr_no rfl rfl (lr _) rfl rfl (dr_no rfl rfl (lr _) rfl rfl (dr_no rfl rfl (lr _) rfl rfl ?_))))))
   refine dr_ev rfl (ev_pickT (v := .raw _) (lr _) (lr _)) ?_
   refine dr_ev rfl (ev_mv (v := .raw _) (lr _)) ?_
   refine dr_no rfl rfl (lr _) rfl rfl (dr_no rfl rfl (lr _) rfl rfl (dr_no rfl rfl (lr _) rfl rfl (dr_no rfl rfl (lr _) rfl rfl ?_)))
   refine dr_ev rfl (ev_pickT (v := .raw _) (lr _) (lr _)) ?_
   refine dr_end (sq_nil ?_)
   refine aw_true (lr _) ?_
   refine aw_seq (aw_region ?_)
   refine asr (lr _) rfl (sq_nil (aw_ret ?_))
   exact retQ_pure (v := .raw _) rfl rfl (Less.eq (by rw [scOK_bad (i := k) (by omega) (by simp [scBad, *])]))
  ·
   have g2' := g2
   try simp only [qq] at g2'
   refine dr_yes rfl rfl (less_b g2) rfl (ev_mv (v := .raw _) (lr _)) ?_
   refine dr_yes rfl rfl (less_b g2) rfl (ev_gtr (lr _) (lr _)) ?_
   refine dr_yes rfl rfl (less_b g2) rfl (ev_mv (v := .raw _) (lr _)) ?_
   refine dr_split 25 (lr _) (fun g3 => ?_) (fun g3 => ?_)
   ·
    have g3' := g3
    try simp only [qq] at g3'
    have g3n : 0 < k := by omega
    refine dr_yes rfl rfl (less_b g3) rfl (ev_fieldAddr fo84_0 (lr _)) ?_
    refine dr_yes rfl rfl (less_b g3) rfl (ev_load (lr _) rfl ty3 rfl) ?_
    refine dr_yes rfl rfl (less_b g3) rfl (ev_fieldAddr fo27_3 (lr _)) ?_
    refine dr_yes rfl rfl (less_b g3) rfl (ev_load (lr _) rfl ty25 rfl) ?_
    refine dr_yes rfl rfl (less_b g3) rfl (ev_mv (v := .raw _) (lr _)) ?_
    refine dr_yes rfl rfl (less_b g3) rfl (ev_sub (lr _) (lr _) (wr (by omega) (by omega))) ?_
    refine dr_yes rfl rfl (less_b g3) rfl (ev_index_map sl25 (lr _) (lr _) (show ((k : Int) - 1) = ((k - 1 : Nat) : Int) by omega) (by omega)) ?_
    refine dr_yes rfl rfl (less_b g3) rfl (ev_fieldAddr_i fo84_0 (lr _)) ?_
    refine dr_yes rfl rfl (less_b g3) rfl (ev_load_i (lr _) ty3 rfl) ?_
    refine dr_yes rfl rfl (less_b g3) rfl (ev_lss (lr _) (lr _)) ?_
    refine dr_yes rfl rfl (less_b g2) rfl (ev_pickT (v := .raw _) (less_b g3) (lr _)) ?_
    refine dr_ev rfl (ev_pickF (v := .raw _) (less_b g2) (lr _)) ?_
    refine dr_ev rfl (ev_mv (v := .raw _) (lr _)) ?_
    refine dr_split 38 (lr _) (fun g4 => ?_) (fun g4 => ?_)
    ·
     have g4' := g4
     try simp only [qq] at g4'
     refine dr_no rfl rfl (less_b g4) rfl rfl ?_
     refine dr_no rfl rfl (less_b g4) rfl rfl ?_
     refine dr_no rfl rfl (less_b g4) rfl rfl ?_
     refine dr_no rfl rfl (less_b g4) rfl rfl ?_
     refine dr_ev rfl (ev_pickT (v := .raw _) (less_b g4) (lr _)) ?_
     refine dr_ev rfl (ev_mv (v := .raw _) (lr _)) ?_
     refine dr_no rfl rfl (lr _) rfl rfl (dr_no rfl rfl (lr _) rfl rfl (dr_no rfl rfl (lr _) rfl rfl (dr_no rfl rfl (lr _) rfl rfl (dr_no rfl rfl (lr _) rfl rfl (dr_no rfl rfl (lr _) rfl rfl ?_)))))
     refine dr_ev rfl (ev_pickT (v := .raw _) (lr _) (lr _)) ?_
     refine dr_ev rfl (ev_mv (v := .raw _) (lr _)) ?_
     refine dr_no rfl rfl (lr _) rfl rfl ?_
     refine dr_no rfl rfl (lr _) rfl rfl (dr_no rfl rfl (lr _) rfl rfl (dr_no rfl rfl (lr _) rfl rfl (dr_no rfl rfl (lr _) rfl rfl (dr_no rfl rfl (lr _) rfl rfl (dr_no rfl rfl (lr _) rfl rfl (dr_no rfl rfl (lr _) rfl rfl ?_))))))
     refine dr_ev rfl (ev_pickT (v := .raw _) (lr _) (lr _)) ?_
     refine dr_ev rfl (ev_mv (v := .raw _) (lr _)) ?_
     refine dr_no rfl rfl (lr _) rfl rfl (dr_no rfl rfl (lr _) rfl rfl (dr_no rfl rfl (lr _) rfl rfl (dr_no rfl rfl (lr _) rfl rfl ?_)))
     refine dr_ev rfl (ev_pickT (v := .raw _) (lr _) (lr _)) ?_
     refine dr_end (sq_nil ?_)
     refine aw_true (lr _) ?_
     refine aw_seq (aw_region ?_)
     refine asr (lr _) rfl (sq_nil (aw_ret ?_))
     exact retQ_pure (v := .raw _) rfl rfl (Less.eq (by rw [scOK_bad (i := k) (by omega) (by simp [scBad, *])]))
    ·
     have g4' := g4
     try simp only [qq] at g4'
     refine dr_yes rfl rfl (less_b g4) rfl (ev_fieldAddr fo84_1 (lr _)) ?_
     refine dr_yes rfl rfl (less_b g4) rfl (ev_load (lr _) rfl ty3 rfl) ?_
     refine dr_yes rfl rfl (less_b g4) rfl (ev_call en89 (lr _) (in_pure _ _ _) ⟨lr _, lr _, lr _, trivial⟩) ?_
     refine dr_yes rfl rfl (less_b g4) rfl (ev_not (lr _)) ?_
     refine dr_ev rfl (ev_pickF (v := .raw _) (less_b g4) (lr _)) ?_
     refine dr_ev rfl (ev_mv (v := .raw _) (lr _)) ?_
     refine dr_split 44 (lr _) (fun g5 => ?_) (fun g5 => ?_)
     ·
      have g5' := g5
      try simp only [qq] at g5'
      refine dr_no rfl rfl (less_b g5) rfl rfl ?_
      refine dr_no rfl rfl (less_b g5) rfl rfl ?_
      refine dr_no rfl rfl (less_b g5) rfl rfl ?_
      refine dr_no rfl rfl (less_b g5) rfl rfl ?_
      refine dr_no rfl rfl (less_b g5) rfl rfl ?_
      refine dr_no rfl rfl (less_b g5) rfl rfl ?_
      refine dr_ev rfl (ev_pickT (v := .raw _) (less_b g5) (lr _)) ?_
      refine dr_ev rfl (ev_mv (v := .raw _) (lr _)) ?_
      refine dr_no rfl rfl (lr _) rfl rfl ?_
      refine dr_no rfl rfl (lr _) rfl rfl (dr_no rfl rfl (lr _) rfl rfl (dr_no rfl rfl (lr _) rfl rfl (dr_no rfl rfl (lr _) rfl rfl (dr_no rfl rfl (lr _) rfl rfl (dr_no rfl rfl (lr _) rfl rfl (dr_no rfl rfl (lr _) rfl rfl ?_))))))
      refine dr_ev rfl (ev_pickT (v := .raw _) (lr _) (lr _)) ?_
      refine dr_ev rfl (ev_mv (v := .raw _) (lr _)) ?_
      refine dr_no rfl rfl (lr _) rfl rfl (dr_no rfl rfl (lr _) rfl rfl (dr_no rfl rfl (lr _) rfl rfl (dr_no rfl rfl (lr _) rfl rfl ?_)))
      refine dr_ev rfl (ev_pickT (v := .raw _) (lr _) (lr _)) ?_
      refine dr_end (sq_nil ?_)
      refine aw_true (lr _) ?_
      refine aw_seq (aw_region ?_)
      refine asr (lr _) rfl (sq_nil (aw_ret ?_))
      exact retQ_pure (v := .raw _) rfl rfl (Less.eq (by rw [scOK_bad (i := k) (by omega) (by simp [scBad, *])]))
     ·
      have g5' := g5
      try simp only [qq] at g5'
      refine dr_yes rfl rfl (less_b g5) rfl (ev_fieldAddr fo84_2 (lr _)) ?_
      refine dr_yes rfl rfl (less_b g5) rfl (ev_load (lr _) rfl ty3 rfl) ?_
      refine dr_yes rfl rfl (less_b g5) rfl (ev_fieldAddr fo84_1 (lr _)) ?_
      refine dr_yes rfl rfl (less_b g5) rfl (ev_load (lr _) rfl ty3 rfl) ?_
      refine dr_yes rfl rfl (less_b g5) rfl (ev_call en89 (lr _) (in_pure _ _ _) ⟨lr _, lr _, lr _, trivial⟩) ?_
      refine dr_yes rfl rfl (less_b g5) rfl (ev_not (lr _)) ?_
      refine dr_ev rfl (ev_pickF (v := .raw _) (less_b g5) (lr _)) ?_
      refine dr_ev rfl (ev_mv (v := .raw _) (lr _)) ?_
      refine dr_split 52 (lr _) (fun g6 => ?_) (fun g6 => ?_)
      ·
       have g6' := g6
       try simp only [qq] at g6'
       refine dr_no rfl rfl (less_b g6) rfl rfl ?_
       refine dr_no rfl rfl (less_b g6) rfl rfl ?_
       refine dr_no rfl rfl (less_b g6) rfl rfl ?_
       refine dr_no rfl rfl (less_b g6) rfl rfl ?_
       refine dr_no rfl rfl (less_b g6) rfl rfl ?_
       refine dr_no rfl rfl (less_b g6) rfl rfl ?_
       refine dr_no rfl rfl (less_b g6) rfl rfl ?_
       refine dr_no rfl rfl (less_b g6) rfl rfl ?_
       refine dr_ev rfl (ev_pickT (v := .raw _) (less_b g6) (lr _)) ?_
       refine dr_ev rfl (ev_mv (v := .raw _) (lr _)) ?_
       refine dr_no rfl rfl (lr _) rfl rfl (dr_no rfl rfl (lr _) rfl rfl (dr_no rfl rfl (lr _) rfl rfl (dr_no rfl rfl (lr _) rfl rfl ?_)))
       refine dr_ev rfl (ev_pickT (v := .raw _) (lr _) (lr _)) ?_
       refine dr_end (sq_nil ?_)
       refine aw_true (lr _) ?_
       refine aw_seq (aw_region ?_)
       refine asr (lr _) rfl (sq_nil (aw_ret ?_))
       exact retQ_pure (v := .raw _) rfl rfl (Less.eq (by rw [scOK_bad (i := k) (by omega) (by simp [scBad, *])]))
      ·
       have g6' := g6
       try simp only [qq] at g6'
       refine dr_yes rfl rfl (less_b g6) rfl (ev_fieldAddr fo84_4 (lr _)) ?_
       refine dr_yes rfl rfl (less_b g6) rfl (ev_load (lr _) rfl ty3 rfl) ?_
       refine dr_yes rfl rfl (less_b g6) rfl (ev_fieldAddr fo27_3 (lr _)) ?_
       refine dr_yes rfl rfl (less_b g6) rfl (ev_load (lr _) rfl ty25 rfl) ?_
       refine dr_yes rfl rfl (less_b g6) rfl (ev_len_map sl25 (lr _)) ?_
       refine dr_yes rfl rfl (less_b g6) rfl (ev_sub (lr _) (lr _) (wr (by omega) (by omega))) ?_
       refine dr_yes rfl rfl (less_b g6) rfl (ev_call en89 (lr _) (in_pure _ _ _) ⟨lr _, lr _, lr _, trivial⟩) ?_
       refine dr_yes rfl rfl (less_b g6) rfl (ev_not (lr _)) ?_
       refine dr_ev rfl (ev_pickF (v := .raw _) (less_b g6) (lr _)) ?_
       refine dr_ev rfl (ev_mv (v := .raw _) (lr _)) ?_
       refine dr_split 62 (lr _) (fun g7 => ?_) (fun g7 => ?_)
       ·
        have g7' := g7
        try simp only [qq] at g7'
        refine dr_no rfl rfl (less_b g7) rfl rfl ?_
        refine dr_no rfl rfl (less_b g7) rfl rfl ?_
        refine dr_no rfl rfl (less_b g7) rfl rfl ?_
        refine dr_no rfl rfl (less_b g7) rfl rfl ?_
        refine dr_ev rfl (ev_pickT (v := .raw _) (less_b g7) (lr _)) ?_
        refine dr_end (sq_nil ?_)
        refine aw_true (lr _) ?_
        refine aw_seq (aw_region ?_)
        refine asr (lr _) rfl (sq_nil (aw_ret ?_))
        exact retQ_pure (v := .raw _) rfl rfl (Less.eq (by rw [scOK_bad (i := k) (by omega) (by simp [scBad, *])]))
       ·
        have g7' := g7
        try simp only [qq] at g7'
        refine dr_yes rfl rfl (less_b g7) rfl (ev_fieldAddr fo84_4 (lr _)) ?_
        refine dr_yes rfl rfl (less_b g7) rfl (ev_load (lr _) rfl ty3 rfl) ?_
        refine dr_yes rfl rfl (less_b g7) rfl (ev_mv (v := .raw _) (lr _)) ?_
        refine dr_yes rfl rfl (less_b g7) rfl (ev_eql (lr _) (lr _)) ?_
        refine dr_ev rfl (ev_pickF (v := .raw _) (less_b g7) (lr _)) ?_
        refine dr_end (sq_nil ?_)
        refine aw_cond (lr _) (fun c8 => ?_) (fun c8 => ?_)
        ·
         have c8' := c8
         try simp only [qq] at c8'
         refine aw_seq (aw_region ?_)
         refine asr (lr _) rfl (sq_nil (aw_ret ?_))
         exact retQ_pure (v := .raw _) rfl rfl (Less.eq (by rw [scOK_bad (i := k) (by omega) (by simp [scBad, *])]))
        ·
         have c8' := c8
         try simp only [qq] at c8'
         refine aw_skip (aw_seq (aw_region ?_))
         refine sq_ev rfl (ev_fieldAddr fo84_3 (lr _)) ?_
         refine sq_ev rfl (ev_load (lr _) rfl ty4 rfl) ?_
         refine sq_nil ?_
         refine aw_cond (lr _) (fun c9 => ?_) (fun c9 => ?_)
         ·
          have c9' := c9
          try simp only [qq] at c9'
          refine aw_region ?_
          refine mvr (lr _) rfl (sq_ev rfl (ev_add (lr _) (lr _) (wr (by omega) (by omega))) ?_)
          refine asr (lr _) rfl (sq_nil (aw_region ?_))
          refine mvr (lr _) rfl (sq_ev rfl (ev_add (lr _) (lr _) (wr (by omega) (by omega))) ?_)
          refine asr (lr _) rfl (sq_nil ?_)
          have hstep := loosies_take (l := p.scenes) (k := k) (by omega)
          have hgood : scBad p.scenes k (by omega) = false := by simp [scBad, *]
          exact ⟨⟨k + 1, by omega, fun i h hi => (by by_cases e : i = k; (subst e; exact hgood); exact hok i h (by omega))⟩, by simp only; omega, Sub.fin 1 ⟨less_int (by rw [hstep]; simp [*]), lr _, lr _, trivial⟩ rfl (by simp [slotsIn, objsIn, sget, keepS, AObj.inB, AV.inB, AV.inL, AV.inE, inE_map]) (by simp [slotsIn, objsIn, sget, keepS, AObj.inB, AV.inB, AV.inL, AV.inE, inE_map]) (by simp [he0])⟩
         ·
          have c9' := c9
          try simp only [qq] at c9'
          refine aw_skip (aw_region ?_)
          refine mvr (lr _) rfl (sq_ev rfl (ev_add (lr _) (lr _) (wr (by omega) (by omega))) ?_)
          refine asr (lr _) rfl (sq_nil ?_)
          have hstep := loosies_take (l := p.scenes) (k := k) (by omega)
          have hgood : scBad p.scenes k (by omega) = false := by simp [scBad, *]
          exact ⟨⟨k + 1, by omega, fun i h hi => (by by_cases e : i = k; (subst e; exact hgood); exact hok i h (by omega))⟩, by simp only; omega, Sub.fin 1 ⟨less_int (by rw [hstep]; simp [*]), lr _, lr _, trivial⟩ rfl (by simp [slotsIn, objsIn, sget, keepS, AObj.inB, AV.inB, AV.inL, AV.inE, inE_map]) (by simp [slotsIn, objsIn, sget, keepS, AObj.inB, AV.inB, AV.inL, AV.inE, inE_map]) (by simp [he0])⟩
   ·
    have g3' := g3
    try simp only [qq] at g3'
    have g3n : ¬ (0 < k) := by omega
    refine dr_no rfl rfl (less_b g3) rfl rfl ?_
    refine dr_no rfl rfl (less_b g3) rfl rfl ?_
    refine dr_no rfl rfl (less_b g3) rfl rfl ?_
    refine dr_no rfl rfl (less_b g3) rfl rfl ?_
    refine dr_no rfl rfl (less_b g3) rfl rfl ?_
    refine dr_no rfl rfl (less_b g3) rfl rfl ?_
    refine dr_no rfl rfl (less_b g3) rfl rfl ?_
    refine dr_no rfl rfl (less_b g3) rfl rfl ?_
    refine dr_no rfl rfl (less_b g3) rfl rfl ?_
    refine dr_no rfl rfl (less_b g3) rfl rfl ?_
    refine dr_yes rfl rfl (less_b g2) rfl (ev_pickF (v := .raw _) (less_b g3) (lr _)) ?_
    refine dr_ev rfl (ev_pickF (v := .raw _) (less_b g2) (lr _)) ?_
    refine dr_ev rfl (ev_mv (v := .raw _) (lr _)) ?_
    refine dr_yes rfl rfl (lr _) rfl (ev_fieldAddr fo84_1 (lr _)) ?_
    refine dr_yes rfl rfl (lr _) rfl (ev_load (lr _) rfl ty3 rfl) ?_
    refine dr_yes rfl rfl (lr _) rfl (ev_call en89 (lr _) (in_pure _ _ _) ⟨lr _, lr _, lr _, trivial⟩) ?_
    refine dr_yes rfl rfl (lr _) rfl (ev_not (lr _)) ?_
    refine dr_ev rfl (ev_pickF (v := .raw _) (lr _) (lr _)) ?_
    refine dr_ev rfl (ev_mv (v := .raw _) (lr _)) ?_
    refine dr_split 44 (lr _) (fun g10 => ?_) (fun g10 => ?_)
    ·
     have g10' := g10
     try simp only [qq] at g10'
     refine dr_no rfl rfl (less_b g10) rfl rfl ?_
     refine dr_no rfl rfl (less_b g10) rfl rfl ?_
     refine dr_no rfl rfl (less_b g10) rfl rfl ?_
     refine dr_no rfl rfl (less_b g10) rfl rfl ?_
     refine dr_no rfl rfl (less_b g10) rfl rfl ?_
     refine dr_no rfl rfl (less_b g10) rfl rfl ?_
     refine dr_ev rfl (ev_pickT (v := .raw _) (less_b g10) (lr _)) ?_
     refine dr_ev rfl (ev_mv (v := .raw _) (lr _)) ?_
     refine dr_no rfl rfl (lr _) rfl rfl ?_
     refine dr_no rfl rfl (lr _) rfl rfl (dr_no rfl rfl (lr _) rfl rfl (dr_no rfl rfl (lr _) rfl rfl (dr_no rfl rfl (lr _) rfl rfl (dr_no rfl rfl (lr _) rfl rfl (dr_no rfl rfl (lr _) rfl rfl (dr_no rfl rfl (lr _) rfl rfl ?_))))))
     refine dr_ev rfl (ev_pickT (v := .raw _) (lr _) (lr _)) ?_
     refine dr_ev rfl (ev_mv (v := .raw _) (lr _)) ?_
     refine dr_no rfl rfl (lr _) rfl rfl (dr_no rfl rfl (lr _) rfl rfl (dr_no rfl rfl (lr _) rfl rfl (dr_no rfl rfl (lr _) rfl rfl ?_)))
     refine dr_ev rfl (ev_pickT (v := .raw _) (lr _) (lr _)) ?_
     refine dr_end (sq_nil ?_)
     refine aw_true (lr _) ?_
     refine aw_seq (aw_region ?_)
     refine asr (lr _) rfl (sq_nil (aw_ret ?_))
     exact retQ_pure (v := .raw _) rfl rfl (Less.eq (by rw [scOK_bad (i := k) (by omega) (by simp [scBad, *])]))
    ·
     have g10' := g10
     try simp only [qq] at g10'
     refine dr_yes rfl rfl (less_b g10) rfl (ev_fieldAddr fo84_2 (lr _)) ?_
     refine dr_yes rfl rfl (less_b g10) rfl (ev_load (lr _) rfl ty3 rfl) ?_
     refine dr_yes rfl rfl (less_b g10) rfl (ev_fieldAddr fo84_1 (lr _)) ?_
     refine dr_yes rfl rfl (less_b g10) rfl (ev_load (lr _) rfl ty3 rfl) ?_
     refine dr_yes rfl rfl (less_b g10) rfl (ev_call en89 (lr _) (in_pure _ _ _) ⟨lr _, lr _, lr _, trivial⟩) ?_
     refine dr_yes rfl rfl (less_b g10) rfl (ev_not (lr _)) ?_
     refine dr_ev rfl (ev_pickF (v := .raw _) (less_b g10) (lr _)) ?_
     refine dr_ev rfl (ev_mv (v := .raw _) (lr _)) ?_
     refine dr_split 52 (lr _) (fun g11 => ?_) (fun g11 => ?_)
     ·
      have g11' := g11
      try simp only [qq] at g11'
      refine dr_no rfl rfl (less_b g11) rfl rfl ?_
      refine dr_no rfl rfl (less_b g11) rfl rfl ?_
      refine dr_no rfl rfl (less_b g11) rfl rfl ?_
      refine dr_no rfl rfl (less_b g11) rfl rfl ?_
      refine dr_no rfl rfl (less_b g11) rfl rfl ?_
      refine dr_no rfl rfl (less_b g11) rfl rfl ?_
      refine dr_no rfl rfl (less_b g11) rfl rfl ?_
      refine dr_no rfl rfl (less_b g11) rfl rfl ?_
      refine dr_ev rfl (ev_pickT (v := .raw _) (less_b g11) (lr _)) ?_
      refine dr_ev rfl (ev_mv (v := .raw _) (lr _)) ?_
      refine dr_no rfl rfl (lr _) rfl rfl (dr_no rfl rfl (lr _) rfl rfl (dr_no rfl rfl (lr _) rfl rfl (dr_no rfl rfl (lr _) rfl rfl ?_)))
      refine dr_ev rfl (ev_pickT (v := .raw _) (lr _) (lr _)) ?_
      refine dr_end (sq_nil ?_)
      refine aw_true (lr _) ?_
      refine aw_seq (aw_region ?_)
      refine asr (lr _) rfl (sq_nil (aw_ret ?_))
      exact retQ_pure (v := .raw _) rfl rfl (Less.eq (by rw [scOK_bad (i := k) (by omega) (by simp [scBad, *])]))
     ·
      have g11' := g11
      try simp only [qq] at g11'
      refine dr_yes rfl rfl (less_b g11) rfl (ev_fieldAddr fo84_4 (lr _)) ?_
      refine dr_yes rfl rfl (less_b g11) rfl (ev_load (lr _) rfl ty3 rfl) ?_
      refine dr_yes rfl rfl (less_b g11) rfl (ev_fieldAddr fo27_3 (lr _)) ?_
      refine dr_yes rfl rfl (less_b g11) rfl (ev_load (lr _) rfl ty25 rfl) ?_
      refine dr_yes rfl rfl (less_b g11) rfl (ev_len_map sl25 (lr _)) ?_
      refine dr_yes rfl rfl (less_b g11) rfl (ev_sub (lr _) (lr _) (wr (by omega) (by omega))) ?_
      refine dr_yes rfl rfl (less_b g11) rfl (ev_call en89 (lr _) (in_pure _ _ _) ⟨lr _, lr _, lr _, trivial⟩) ?_
      refine dr_yes rfl rfl (less_b g11) rfl (ev_not (lr _)) ?_
      refine dr_ev rfl (ev_pickF (v := .raw _) (less_b g11) (lr _)) ?_
      refine dr_ev rfl (ev_mv (v := .raw _) (lr _)) ?_
      refine dr_split 62 (lr _) (fun g12 => ?_) (fun g12 => ?_)
      ·
       have g12' := g12
       try simp only [qq] at g12'
       refine dr_no rfl rfl (less_b g12) rfl rfl ?_
       refine dr_no rfl rfl (less_b g12) rfl rfl ?_
       refine dr_no rfl rfl (less_b g12) rfl rfl ?_
       refine dr_no rfl rfl (less_b g12) rfl rfl ?_
       refine dr_ev rfl (ev_pickT (v := .raw _) (less_b g12) (lr _)) ?_
       refine dr_end (sq_nil ?_)
       refine aw_true (lr _) ?_
       refine aw_seq (aw_region ?_)
       refine asr (lr _) rfl (sq_nil (aw_ret ?_))
       exact retQ_pure (v := .raw _) rfl rfl (Less.eq (by rw [scOK_bad (i := k) (by omega) (by simp [scBad, *])]))
      ·
       have g12' := g12
       try simp only [qq] at g12'
       refine dr_yes rfl rfl (less_b g12) rfl (ev_fieldAddr fo84_4 (lr _)) ?_
       refine dr_yes rfl rfl (less_b g12) rfl (ev_load (lr _) rfl ty3 rfl) ?_
       refine dr_yes rfl rfl (less_b g12) rfl (ev_mv (v := .raw _) (lr _)) ?_
       refine dr_yes rfl rfl (less_b g12) rfl (ev_eql (lr _) (lr _)) ?_
       refine dr_ev rfl (ev_pickF (v := .raw _) (less_b g12) (lr _)) ?_
       refine dr_end (sq_nil ?_)
       refine aw_cond (lr _) (fun c13 => ?_) (fun c13 => ?_)
       ·
        have c13' := c13
        try simp only [qq] at c13'
        refine aw_seq (aw_region ?_)
        refine asr (lr _) rfl (sq_nil (aw_ret ?_))
        exact retQ_pure (v := .raw _) rfl rfl (Less.eq (by rw [scOK_bad (i := k) (by omega) (by simp [scBad, *])]))
       ·
        have c13' := c13
        try simp only [qq] at c13'
        refine aw_skip (aw_seq (aw_region ?_))
        refine sq_ev rfl (ev_fieldAddr fo84_3 (lr _)) ?_
        refine sq_ev rfl (ev_load (lr _) rfl ty4 rfl) ?_
        refine sq_nil ?_
        refine aw_cond (lr _) (fun c14 => ?_) (fun c14 => ?_)
        ·
         have c14' := c14
         try simp only [qq] at c14'
         refine aw_region ?_
         refine mvr (lr _) rfl (sq_ev rfl (ev_add (lr _) (lr _) (wr (by omega) (by omega))) ?_)
         refine asr (lr _) rfl (sq_nil (aw_region ?_))
         refine mvr (lr _) rfl (sq_ev rfl (ev_add (lr _) (lr _) (wr (by omega) (by omega))) ?_)
         refine asr (lr _) rfl (sq_nil ?_)
         have hstep := loosies_take (l := p.scenes) (k := k) (by omega)
         have hgood : scBad p.scenes k (by omega) = false := by simp [scBad, *]
         exact ⟨⟨k + 1, by omega, fun i h hi => (by by_cases e : i = k; (subst e; exact hgood); exact hok i h (by omega))⟩, by simp only; omega, Sub.fin 1 ⟨less_int (by rw [hstep]; simp [*]), lr _, lr _, trivial⟩ rfl (by simp [slotsIn, objsIn, sget, keepS, AObj.inB, AV.inB, AV.inL, AV.inE, inE_map]) (by simp [slotsIn, objsIn, sget, keepS, AObj.inB, AV.inB, AV.inL, AV.inE, inE_map]) (by simp [he0])⟩
        ·
         have c14' := c14
         try simp only [qq] at c14'
         refine aw_skip (aw_region ?_)
         refine mvr (lr _) rfl (sq_ev rfl (ev_add (lr _) (lr _) (wr (by omega) (by omega))) ?_)
         refine asr (lr _) rfl (sq_nil ?_)
         have hstep := loosies_take (l := p.scenes) (k := k) (by omega)
         have hgood : scBad p.scenes k (by omega) = false := by simp [scBad, *]
         exact ⟨⟨k + 1, by omega, fun i h hi => (by by_cases e : i = k; (subst e; exact hgood); exact hok i h (by omega))⟩, by simp only; omega, Sub.fin 1 ⟨less_int (by rw [hstep]; simp [*]), lr _, lr _, trivial⟩ rfl (by simp [slotsIn, objsIn, sget, keepS, AObj.inB, AV.inB, AV.inL, AV.inE, inE_map]) (by simp [slotsIn, objsIn, sget, keepS, AObj.inB, AV.inB, AV.inL, AV.inE, inE_map]) (by simp [he0])⟩
 ·
  have c1' := c1
  try simp only [qq] at c1'
  refine aw_exit (aw_seq (aw_region ?_))
  refine mvr (lr _) rfl (sq_ev rfl (ev_leq (lr _) (lr _)) ?_)
  refine asr (lr _) rfl (sq_nil (aw_ret ?_))
  exact retQ_pure (v := .raw _) rfl rfl (Less.eq (by rw [scOK_end hk c1' hok]))
theorem plan_pure (p : Pl) (hl : p.scenes.length ≤ 1000000) : APure Tryz.prog 24 [plan p] (B (PlOK p)) := by
 refine apure_of (rs := [.tmp 2]) Tryz.func24 rfl rfl (Nat.le_of_ble_eq_true rfl) (by simp [AV.pureL, AV.pureB, AV.pureE, pureE_map]) (rfl) fun e0 he0 => ?_
 refine aw_seq (aw_region ?_)
 refine sq_box rfl (lr _) rfl (asr (lr _) rfl (sq_nil (aw_seq (aw_region ?_))))
 refine sq_ev rfl (ev_fieldAddr fo27_0 (lr _)) ?_
 refine sq_ev rfl (ev_load (lr _) rfl ty3 rfl) ?_
 refine sq_ev rfl (ev_call en89 (lr _) (in_pure _ _ _) ⟨lr _, lr _, lr _, trivial⟩) ?_
 refine mvr (lr _) rfl ?_
 refine sq_split 6 (lr _) (fun g1 => ?_) (fun g1 => ?_)
 ·
  have g1' := g1
  try simp only [qq] at g1'
  refine sq_yes rfl rfl (less_b g1) rfl (ev_fieldAddr fo27_1 (lr _)) ?_
  refine sq_yes rfl rfl (less_b g1) rfl (ev_index_box ar24 (lr _) (lr _) rfl (by decide)) ?_
  refine sq_yes rfl rfl (less_b g1) rfl (ev_load_agg (lr _) rfl ty23 rfl) ?_
  refine sq_yes rfl rfl (less_b g1) rfl (ev_call en90 (lr _) (window_pure _ _) ⟨lr _, trivial⟩) ?_
  refine sq_ev rfl (ev_pickT (v := .raw _) (less_b g1) (lr _)) ?_
  refine mvr (lr _) rfl ?_
  refine sq_split 12 (lr _) (fun g2 => ?_) (fun g2 => ?_)
  ·
   have g2' := g2
   try simp only [qq] at g2'
   refine sq_yes rfl rfl (less_b g2) rfl (ev_fieldAddr fo27_1 (lr _)) ?_
   refine sq_yes rfl rfl (less_b g2) rfl (ev_index_box ar24 (lr _) (lr _) rfl (by decide)) ?_
   refine sq_yes rfl rfl (less_b g2) rfl (ev_load_agg (lr _) rfl ty23 rfl) ?_
   refine sq_yes rfl rfl (less_b g2) rfl (ev_call en90 (lr _) (window_pure _ _) ⟨lr _, trivial⟩) ?_
   refine sq_ev rfl (ev_pickT (v := .raw _) (less_b g2) (lr _)) ?_
   refine mvr (lr _) rfl ?_
   refine sq_split 18 (lr _) (fun g3 => ?_) (fun g3 => ?_)
   ·
    have g3' := g3
    try simp only [qq] at g3'
    refine sq_yes rfl rfl (less_b g3) rfl (ev_fieldAddr fo27_2 (lr _)) ?_
    refine sq_yes rfl rfl (less_b g3) rfl (ev_load_agg (lr _) rfl ty23 rfl) ?_
    refine sq_yes rfl rfl (less_b g3) rfl (ev_call en90 (lr _) (window_pure _ _) ⟨lr _, trivial⟩) ?_
    refine sq_ev rfl (ev_pickT (v := .raw _) (less_b g3) (lr _)) ?_
    refine mvr (lr _) rfl ?_
    refine sq_split 23 (lr _) (fun g4 => ?_) (fun g4 => ?_)
    ·
     have g4' := g4
     try simp only [qq] at g4'
     refine sq_yes rfl rfl (less_b g4) rfl (ev_fieldAddr fo27_3 (lr _)) ?_
     refine sq_yes rfl rfl (less_b g4) rfl (ev_load (lr _) rfl ty25 rfl) ?_
     refine sq_yes rfl rfl (less_b g4) rfl (ev_len_map sl25 (lr _)) ?_
     refine sq_yes rfl rfl (less_b g4) rfl (ev_call en89 (lr _) (in_pure _ _ _) ⟨lr _, lr _, lr _, trivial⟩) ?_
     refine sq_ev rfl (ev_pickT (v := .raw _) (less_b g4) (lr _)) ?_
     refine mvr (lr _) rfl ?_
     refine sq_split 29 (lr _) (fun g5 => ?_) (fun g5 => ?_)
     ·
      have g5' := g5
      try simp only [qq] at g5'
      refine sq_yes rfl rfl (less_b g5) rfl (ev_load_agg (lr _) rfl ty27 rfl) ?_
      refine sq_yes rfl rfl (less_b g5) rfl (ev_call en91 (lr _) (scenes_pure _ hl) ⟨lr _, trivial⟩) ?_
      refine sq_ev rfl (ev_pickT (v := .raw _) (less_b g5) (lr _)) ?_
      refine asr (lr _) rfl (sq_nil (aw_ret ?_))
      exact retQ_pure (v := .raw _) rfl rfl (Less.eq (by simp [PlOK, *]))
     ·
      have g5' := g5
      try simp only [qq] at g5'
      refine sq_no rfl rfl (less_b g5) rfl rfl ?_
      refine sq_no rfl rfl (less_b g5) rfl rfl ?_
      refine sq_ev rfl (ev_pickF (v := .raw _) (less_b g5) (lr _)) ?_
      refine asr (lr _) rfl (sq_nil (aw_ret ?_))
      exact retQ_pure (v := .raw _) rfl rfl (Less.eq (by simp [PlOK, *]))
    ·
     have g4' := g4
     try simp only [qq] at g4'
     refine sq_no rfl rfl (less_b g4) rfl rfl ?_
     refine sq_no rfl rfl (less_b g4) rfl rfl ?_
     refine sq_no rfl rfl (less_b g4) rfl rfl ?_
     refine sq_no rfl rfl (less_b g4) rfl rfl ?_
     refine sq_ev rfl (ev_pickF (v := .raw _) (less_b g4) (lr _)) ?_
     refine mvr (lr _) rfl (sq_no rfl rfl (lr _) rfl rfl (sq_no rfl rfl (lr _) rfl rfl (pf rfl (lr _) (lr _) (asr (lr _) rfl (sq_nil (aw_ret ?_))))))
     exact retQ_pure (v := .raw _) rfl rfl (Less.eq (by simp [PlOK, *]))
   ·
    have g3' := g3
    try simp only [qq] at g3'
    refine sq_no rfl rfl (less_b g3) rfl rfl ?_
    refine sq_no rfl rfl (less_b g3) rfl rfl ?_
    refine sq_no rfl rfl (less_b g3) rfl rfl ?_
    refine sq_ev rfl (ev_pickF (v := .raw _) (less_b g3) (lr _)) ?_
    refine mvr (lr _) rfl (sq_no rfl rfl (lr _) rfl rfl (sq_no rfl rfl (lr _) rfl rfl (sq_no rfl rfl (lr _) rfl rfl (sq_no rfl rfl (lr _) rfl rfl (pf rfl (lr _) (lr _) ?_)))))
    refine mvr (lr _) rfl (sq_no rfl rfl (lr _) rfl rfl (sq_no rfl rfl (lr _) rfl rfl (pf rfl (lr _) (lr _) (asr (lr _) rfl (sq_nil (aw_ret ?_))))))
    exact retQ_pure (v := .raw _) rfl rfl (Less.eq (by simp [PlOK, *]))
  ·
   have g2' := g2
   try simp only [qq] at g2'
   refine sq_no rfl rfl (less_b g2) rfl rfl ?_
   refine sq_no rfl rfl (less_b g2) rfl rfl ?_
   refine sq_no rfl rfl (less_b g2) rfl rfl ?_
   refine sq_no rfl rfl (less_b g2) rfl rfl ?_
   refine sq_ev rfl (ev_pickF (v := .raw _) (less_b g2) (lr _)) ?_
   refine mvr (lr _) rfl (sq_no rfl rfl (lr _) rfl rfl (sq_no rfl rfl (lr _) rfl rfl (sq_no rfl rfl (lr _) rfl rfl ?_)))
   refine pf rfl (lr _) (lr _) (mvr (lr _) rfl (sq_no rfl rfl (lr _) rfl rfl (sq_no rfl rfl (lr _) rfl rfl (sq_no rfl rfl (lr _) rfl rfl (sq_no rfl rfl (lr _) rfl rfl (pf rfl (lr _) (lr _) ?_))))))
   refine mvr (lr _) rfl (sq_no rfl rfl (lr _) rfl rfl (sq_no rfl rfl (lr _) rfl rfl (pf rfl (lr _) (lr _) (asr (lr _) rfl (sq_nil (aw_ret ?_))))))
   exact retQ_pure (v := .raw _) rfl rfl (Less.eq (by simp [PlOK, *]))
 ·
  have g1' := g1
  try simp only [qq] at g1'
  refine sq_no rfl rfl (less_b g1) rfl rfl ?_
  refine sq_no rfl rfl (less_b g1) rfl rfl ?_
  refine sq_no rfl rfl (less_b g1) rfl rfl ?_
  refine sq_no rfl rfl (less_b g1) rfl rfl ?_
  refine sq_ev rfl (ev_pickF (v := .raw _) (less_b g1) (lr _)) ?_
  refine mvr (lr _) rfl (sq_no rfl rfl (lr _) rfl rfl (sq_no rfl rfl (lr _) rfl rfl ?_))
  refine sq_no rfl rfl (lr _) rfl rfl (sq_no rfl rfl (lr _) rfl rfl (pf rfl (lr _) (lr _) (mvr (lr _) rfl (sq_no rfl rfl (lr _) rfl rfl (sq_no rfl rfl (lr _) rfl rfl (sq_no rfl rfl (lr _) rfl rfl ?_))))))
  refine pf rfl (lr _) (lr _) (mvr (lr _) rfl (sq_no rfl rfl (lr _) rfl rfl (sq_no rfl rfl (lr _) rfl rfl (sq_no rfl rfl (lr _) rfl rfl (sq_no rfl rfl (lr _) rfl rfl (pf rfl (lr _) (lr _) ?_))))))
  refine mvr (lr _) rfl (sq_no rfl rfl (lr _) rfl rfl (sq_no rfl rfl (lr _) rfl rfl (pf rfl (lr _) (lr _) (asr (lr _) rfl (sq_nil (aw_ret ?_))))))
  exact retQ_pure (v := .raw _) rfl rfl (Less.eq (by simp [PlOK, *]))
theorem scene_pure (p : Pl) (n : Int) (hl : p.scenes.length ≤ 1000000) : APure Tryz.prog 35 [plan p, I n] (B (isSc p n)) := by
 refine apure_of (rs := [.tmp 4]) Tryz.func35 rfl rfl (Nat.le_of_ble_eq_true rfl) (by simp [AV.pureL, AV.pureB, AV.pureE, pureE_map]) (rfl) fun e0 he0 => ?_
 refine aw_seq (aw_region ?_)
 refine sq_box rfl (lr _) rfl (asr (lr _) rfl (sq_nil (aw_seq (aw_region ?_))))
 refine mvr (lr _) rfl (sq_ev rfl (ev_fieldAddr fo27_3 (lr _)) ?_)
 refine sq_ev rfl (ev_load (lr _) rfl ty25 rfl) ?_
 refine sq_ev rfl (ev_len_map sl25 (lr _)) ?_
 refine sq_ev rfl (ev_sub (lr _) (lr _) (wr (by omega) (by omega))) ?_
 refine sq_ev rfl (ev_call en89 (lr _) (in_pure _ _ _) ⟨lr _, lr _, lr _, trivial⟩) ?_
 refine asr (lr _) rfl (sq_nil (aw_ret ?_))
 exact retQ_pure (v := .raw _) rfl rfl (Less.eq (by simp [isSc]))
theorem has_pure (l : List Int) (n : Int) (hl : l.length ≤ 1000000) : APure Tryz.prog 62 [ints l, I n] (B (has l n)) := by
 refine apure_of (rs := [.tmp 4]) Tryz.func62 rfl rfl (Nat.le_of_ble_eq_true rfl) (by simp [AV.pureL, AV.pureB, AV.pureE, pureE_map]) (rfl) fun e0 he0 => ?_
 refine aw_seq (aw_region ?_)
 refine asr (lr _) rfl (sq_nil (aw_seq (aw_seq (aw_region ?_))))
 refine asr (lr _) rfl (sq_nil (aw_block ?_))
 refine aw_loopk (ι := { k : Nat // k ≤ l.length ∧ ∀ j, (h : j < l.length) → j < k → l[j] ≠ n }) [0, 1] (fun i => [(5, I i.1)]) (fun H i => H) (fun i => l.length - i.1) (⟨0, Nat.zero_le _, by omega⟩) ⟨lr _, lr _, lr _, trivial⟩ rfl ?_
 rintro ⟨k, hk, hok⟩
 dsimp only [keepS, St.put, sget, slotsOf, List.map_cons, List.map_nil, List.cons_append, List.nil_append, List.length_cons, List.length_nil, Nat.reduceBEq, Nat.reduceAdd, cond_true, cond_false]
 refine aw_seq (aw_seq (aw_region ?_))
 refine mvr (lr _) rfl (mvs rfl (lr _) (sq_ev rfl (ev_len_map sl34 (lr _)) ?_))
 refine sq_ev rfl (ev_lss (lr _) (lr _)) ?_
 refine sq_nil ?_
 refine aw_cond (lr _) (fun c1 => ?_) (fun c1 => ?_)
 ·
  have c1' := c1
  try simp only [qq] at c1'
  refine aw_skip (aw_seq (aw_block (aw_seq (aw_region ?_))))
  refine mvs rfl (lr _) (mvr (lr _) rfl (sq_ev rfl (ev_index_map sl34 (lr _) (lr _) rfl (by omega)) ?_))
  refine sq_ev rfl (ev_load_i (lr _) ty3 rfl) ?_
  refine mvr (lr _) rfl (sq_ev rfl (ev_eql (lr _) (lr _)) ?_)
  refine sq_nil ?_
  refine aw_cond (lr _) (fun c2 => ?_) (fun c2 => ?_)
  ·
   have c2' := c2
   try simp only [qq] at c2'
   refine aw_seq (aw_region ?_)
   refine asr (lr _) rfl (sq_nil (aw_ret ?_))
   exact retQ_pure (v := .raw _) rfl rfl (Less.eq (by rw [has_yes (k := k) (by omega) c2']))
  ·
   have c2' := c2
   try simp only [qq] at c2'
   refine aw_skip (aw_region ?_)
   refine mvr (lr _) rfl (sq_ev rfl (ev_add (lr _) (lr _) (wr (by omega) (by omega))) ?_)
   refine asr (lr _) rfl (sq_nil ?_)
   exact ⟨⟨k + 1, by omega, fun j h hj => (by by_cases e : j = k; (subst e; exact c2'); exact hok j h (by omega))⟩, by simp only; omega, Sub.slots ⟨lr _, lr _, lr _, trivial⟩⟩
 ·
  have c1' := c1
  try simp only [qq] at c1'
  refine aw_exit (aw_seq (aw_region ?_))
  refine asr (lr _) rfl (sq_nil (aw_ret ?_))
  exact retQ_pure (v := .raw _) rfl rfl (Less.eq (by rw [has_no c1' hok]))
theorem rising_pure (p : Pl) (l : List Int) (hp : p.scenes.length ≤ 1000000) (hl : l.length ≤ 1000000) : APure Tryz.prog 77 [plan p, ints l] (B (Ris p l)) := by
 refine apure_of (rs := [.tmp 4]) Tryz.func77 rfl rfl (Nat.le_of_ble_eq_true rfl) (by simp [AV.pureL, AV.pureB, AV.pureE, pureE_map]) (rfl) fun e0 he0 => ?_
 refine aw_seq (aw_region ?_)
 refine sq_box rfl (lr _) rfl (asr (lr _) rfl (sq_nil (aw_seq (aw_seq (aw_region ?_)))))
 refine asr (lr _) rfl (sq_nil (aw_block ?_))
 refine aw_loopk (ι := { k : Nat // k ≤ l.length ∧ ∀ i, (h : i < l.length) → i < k → risBad p l i h = false }) [1, 2] (fun i => [(5, I i.1)]) (fun H i => H) (fun i => l.length - i.1) (⟨0, Nat.zero_le _, by omega⟩) ⟨lr _, lr _, lr _, trivial⟩ rfl ?_
 rintro ⟨k, hk, hok⟩
 dsimp only [keepS, St.put, sget, slotsOf, List.map_cons, List.map_nil, List.cons_append, List.nil_append, List.length_cons, List.length_nil, Nat.reduceBEq, Nat.reduceAdd, cond_true, cond_false]
 refine aw_seq (aw_seq (aw_region ?_))
 refine mvr (lr _) rfl (mvs rfl (lr _) (sq_ev rfl (ev_len_map sl34 (lr _)) ?_))
 refine sq_ev rfl (ev_lss (lr _) (lr _)) ?_
 refine sq_nil ?_
 refine aw_cond (lr _) (fun c1 => ?_) (fun c1 => ?_)
 ·
  have c1' := c1
  try simp only [qq] at c1'
  refine aw_skip (aw_seq (aw_block (aw_seq ?_)))
  refine aw_draw 23 mo (by kernel_rfl) ?_
  refine dr_ev rfl (ev_load_agg (lr _) rfl ty27 rfl) ?_
  refine dr_ev rfl (ev_mv (v := .sl _ _) (lr _)) ?_
  refine dr_ev rfl (ev_mv (v := .raw _) (lr _)) ?_
  refine dr_ev rfl (ev_index_map sl34 (lr _) (lr _) rfl (by omega)) ?_
  refine dr_ev rfl (ev_load_i (lr _) ty3 rfl) ?_
  refine dr_ev rfl (ev_call en35 (lr _) (scene_pure _ _ hp) ⟨lr _, lr _, trivial⟩) ?_
  refine dr_ev rfl (ev_not (lr _)) ?_
  refine dr_ev rfl (ev_mv (v := .raw _) (lr _)) ?_
  refine dr_split 19 (lr _) (fun g2 => ?_) (fun g2 => ?_)
  ·
   have g2' := g2
   try simp only [qq] at g2'
   refine dr_no rfl rfl (less_b g2) rfl rfl ?_
   refine dr_no rfl rfl (less_b g2) rfl rfl ?_
   refine dr_no rfl rfl (less_b g2) rfl rfl ?_
   refine dr_no rfl rfl (lr _) rfl rfl (dr_no rfl rfl (lr _) rfl rfl (dr_no rfl rfl (lr _) rfl rfl (dr_no rfl rfl (lr _) rfl rfl ?_)))
   refine dr_no rfl rfl (lr _) rfl rfl (dr_no rfl rfl (lr _) rfl rfl (dr_no rfl rfl (lr _) rfl rfl (dr_no rfl rfl (lr _) rfl rfl (dr_no rfl rfl (lr _) rfl rfl (dr_no rfl rfl (lr _) rfl rfl (dr_no rfl rfl (less_b g2) rfl rfl ?_))))))
   refine dr_ev rfl (ev_pickT (v := .raw _) (less_b g2) (lr _)) ?_
   refine dr_end (sq_nil ?_)
   refine aw_true (lr _) ?_
   refine aw_seq (aw_region ?_)
   refine asr (lr _) rfl (sq_nil (aw_ret ?_))
   exact retQ_pure (v := .raw _) rfl rfl (Less.eq (by rw [Ris, okAll_bad (i := k) (by omega) (by first | (simp [risBad, *]; done) | (simp_all [risBad]; done))]))
  ·
   have g2' := g2
   try simp only [qq] at g2'
   refine dr_yes rfl rfl (less_b g2) rfl (ev_mv (v := .raw _) (lr _)) ?_
   refine dr_yes rfl rfl (less_b g2) rfl (ev_gtr (lr _) (lr _)) ?_
   refine dr_yes rfl rfl (less_b g2) rfl (ev_mv (v := .raw _) (lr _)) ?_
   refine dr_split 22 (lr _) (fun g3 => ?_) (fun g3 => ?_)
   ·
    have g3' := g3
    try simp only [qq] at g3'
    have g3n : 0 < k := by omega
    refine dr_yes rfl rfl (less_b g3) rfl (ev_mv (v := .sl _ _) (lr _)) ?_
    refine dr_yes rfl rfl (less_b g3) rfl (ev_mv (v := .raw _) (lr _)) ?_
    refine dr_yes rfl rfl (less_b g3) rfl (ev_index_map sl34 (lr _) (lr _) rfl (by omega)) ?_
    refine dr_yes rfl rfl (less_b g3) rfl (ev_load_i (lr _) ty3 rfl) ?_
    refine dr_yes rfl rfl (less_b g3) rfl (ev_mv (v := .sl _ _) (lr _)) ?_
    refine dr_yes rfl rfl (less_b g3) rfl (ev_mv (v := .raw _) (lr _)) ?_
    refine dr_yes rfl rfl (less_b g3) rfl (ev_sub (lr _) (lr _) (wr (by omega) (by omega))) ?_
    refine dr_yes rfl rfl (less_b g3) rfl (ev_index_map sl34 (lr _) (lr _) (show ((k : Int) - 1) = ((k - 1 : Nat) : Int) by omega) (by omega)) ?_
    refine dr_yes rfl rfl (less_b g3) rfl (ev_load_i (lr _) ty3 rfl) ?_
    refine dr_yes rfl rfl (less_b g3) rfl (ev_leq (lr _) (lr _)) ?_
    refine dr_yes rfl rfl (less_b g2) rfl (ev_pickT (v := .raw _) (less_b g3) (lr _)) ?_
    refine dr_ev rfl (ev_pickF (v := .raw _) (less_b g2) (lr _)) ?_
    refine dr_end (sq_nil ?_)
    refine aw_cond (lr _) (fun c4 => ?_) (fun c4 => ?_)
    ·
     have c4' := c4
     try simp only [qq] at c4'
     refine aw_seq (aw_region ?_)
     refine asr (lr _) rfl (sq_nil (aw_ret ?_))
     exact retQ_pure (v := .raw _) rfl rfl (Less.eq (by rw [Ris, okAll_bad (i := k) (by omega) (by first | (simp [risBad, *]; done) | (simp_all [risBad]; done))]))
    ·
     have c4' := c4
     try simp only [qq] at c4'
     refine aw_skip (aw_region ?_)
     refine mvr (lr _) rfl (sq_ev rfl (ev_add (lr _) (lr _) (wr (by omega) (by omega))) ?_)
     refine asr (lr _) rfl (sq_nil ?_)
     have hgood : risBad p l k (by omega) = false := by first | (simp [risBad, *]; done) | (simp_all [risBad]; done)
     exact ⟨⟨k + 1, by omega, fun i h hi => (by by_cases e : i = k; (subst e; exact hgood); exact hok i h (by omega))⟩, by simp only; omega, Sub.fin 1 ⟨lr _, lr _, lr _, trivial⟩ rfl (by simp [slotsIn, objsIn, sget, keepS, AObj.inB, AV.inB, AV.inL, AV.inE, inE_map]) (by simp [slotsIn, objsIn, sget, keepS, AObj.inB, AV.inB, AV.inL, AV.inE, inE_map]) (by simp [he0])⟩
   ·
    have g3' := g3
    try simp only [qq] at g3'
    have g3n : ¬ (0 < k) := by omega
    refine dr_no rfl rfl (less_b g3) rfl rfl ?_
    refine dr_no rfl rfl (less_b g3) rfl rfl ?_
    refine dr_no rfl rfl (less_b g3) rfl rfl ?_
    refine dr_no rfl rfl (less_b g3) rfl rfl ?_
    refine dr_no rfl rfl (less_b g3) rfl rfl ?_
    refine dr_no rfl rfl (less_b g3) rfl rfl ?_
    refine dr_no rfl rfl (less_b g3) rfl rfl ?_
    refine dr_no rfl rfl (less_b g3) rfl rfl ?_
    refine dr_no rfl rfl (less_b g3) rfl rfl ?_
    refine dr_no rfl rfl (less_b g3) rfl rfl ?_
    refine dr_yes rfl rfl (less_b g2) rfl (ev_pickF (v := .raw _) (less_b g3) (lr _)) ?_
    refine dr_ev rfl (ev_pickF (v := .raw _) (less_b g2) (lr _)) ?_
    refine dr_end (sq_nil ?_)
    refine aw_false (lr _) ?_
    refine aw_skip (aw_region ?_)
    refine mvr (lr _) rfl (sq_ev rfl (ev_add (lr _) (lr _) (wr (by omega) (by omega))) ?_)
    refine asr (lr _) rfl (sq_nil ?_)
    have hgood : risBad p l k (by omega) = false := by first | (simp [risBad, *]; done) | (simp_all [risBad]; done)
    exact ⟨⟨k + 1, by omega, fun i h hi => (by by_cases e : i = k; (subst e; exact hgood); exact hok i h (by omega))⟩, by simp only; omega, Sub.fin 1 ⟨lr _, lr _, lr _, trivial⟩ rfl (by simp [slotsIn, objsIn, sget, keepS, AObj.inB, AV.inB, AV.inL, AV.inE, inE_map]) (by simp [slotsIn, objsIn, sget, keepS, AObj.inB, AV.inB, AV.inL, AV.inE, inE_map]) (by simp [he0])⟩
 ·
  have c1' := c1
  try simp only [qq] at c1'
  refine aw_exit (aw_seq (aw_region ?_))
  refine asr (lr _) rfl (sq_nil (aw_ret ?_))
  exact retQ_pure (v := .raw _) rfl rfl (Less.eq (by rw [Ris, okAll_end hk c1' hok]))
theorem choice_pure (p : Pl) (l : List Int) (hp : p.scenes.length ≤ 1000000) (hl : l.length ≤ 1000000) : APure Tryz.prog 78 [plan p, ints l] (B (isCh p l)) := by
 refine apure_of (rs := [.tmp 4]) Tryz.func78 rfl rfl (Nat.le_of_ble_eq_true rfl) (by simp [AV.pureL, AV.pureB, AV.pureE, pureE_map]) (rfl) fun e0 he0 => ?_
 refine aw_seq (aw_region ?_)
 refine sq_box rfl (lr _) rfl (asr (lr _) rfl (sq_nil (aw_seq (aw_seq (aw_region ?_)))))
 refine asr (lr _) rfl (sq_nil (aw_block ?_))
 refine aw_loopk (ι := { k : Nat // k ≤ p.scenes.length ∧ ∀ i, (h : i < p.scenes.length) → i < k → chBad p l i h = false }) [1, 2] (fun i => [(5, I i.1)]) (fun H i => H) (fun i => p.scenes.length - i.1) (⟨0, Nat.zero_le _, by omega⟩) ⟨lr _, lr _, lr _, trivial⟩ rfl ?_
 rintro ⟨k, hk, hok⟩
 dsimp only [keepS, St.put, sget, slotsOf, List.map_cons, List.map_nil, List.cons_append, List.nil_append, List.length_cons, List.length_nil, Nat.reduceBEq, Nat.reduceAdd, cond_true, cond_false]
 refine aw_seq (aw_seq (aw_region ?_))
 refine mvr (lr _) rfl (sq_ev rfl (ev_fieldAddr fo27_3 (lr _)) ?_)
 refine sq_ev rfl (ev_load (lr _) rfl ty25 rfl) ?_
 refine sq_ev rfl (ev_len_map sl25 (lr _)) ?_
 refine sq_ev rfl (ev_lss (lr _) (lr _)) ?_
 refine sq_nil ?_
 refine aw_cond (lr _) (fun c1 => ?_) (fun c1 => ?_)
 ·
  have c1' := c1
  try simp only [qq] at c1'
  refine aw_skip (aw_seq (aw_block (aw_seq (aw_region ?_))))
  refine sq_ev rfl (ev_fieldAddr fo27_3 (lr _)) ?_
  refine sq_ev rfl (ev_load (lr _) rfl ty25 rfl) ?_
  refine mvr (lr _) rfl (sq_ev rfl (ev_index_map sl25 (lr _) (lr _) rfl (by omega)) ?_)
  refine sq_ev rfl (ev_load_agg_i (lr _) ty84 (Nat.le_of_ble_eq_true rfl)) ?_
  refine sq_alloc rfl z84 ?_
  refine sq_store rfl (lr _) (lr _) rfl rfl ty84 rfl rfl ?_
  refine sq_nil (aw_seq (aw_region ?_))
  refine mvs rfl (lr _) (mvr (lr _) rfl (sq_ev rfl (ev_call en62 (lr _) (has_pure _ _ hl) ⟨lr _, lr _, trivial⟩) ?_))
  refine sq_ev rfl (ev_not (lr _)) ?_
  refine mvr (lr _) rfl ?_
  refine sq_split 23 (lr _) (fun g2 => ?_) (fun g2 => ?_)
  ·
   have g2' := g2
   try simp only [qq] at g2'
   refine sq_yes rfl rfl (less_b g2) rfl (ev_fieldAddr fo84_3 (lr _)) ?_
   refine sq_yes rfl rfl (less_b g2) rfl (ev_load (lr _) rfl ty4 rfl) ?_
   refine sq_yes rfl rfl (less_b g2) rfl (ev_not (lr _)) ?_
   refine sq_ev rfl (ev_pickT (v := .raw _) (less_b g2) (lr _)) ?_
   refine mvr (lr _) rfl ?_
   refine sq_split 28 (lr _) (fun g3 => ?_) (fun g3 => ?_)
   ·
    have g3' := g3
    try simp only [qq] at g3'
    refine sq_no rfl rfl (less_b g3) rfl rfl ?_
    refine sq_no rfl rfl (less_b g3) rfl rfl ?_
    refine sq_no rfl rfl (less_b g3) rfl rfl ?_
    refine sq_no rfl rfl (less_b g3) rfl rfl ?_
    refine sq_no rfl rfl (lr _) rfl rfl (sq_no rfl rfl (lr _) rfl rfl (sq_no rfl rfl (lr _) rfl rfl (sq_no rfl rfl (less_b g3) rfl rfl ?_)))
    refine sq_no rfl rfl (less_b g3) rfl rfl ?_
    refine sq_no rfl rfl (lr _) rfl rfl (sq_no rfl rfl (lr _) rfl rfl (sq_no rfl rfl (lr _) rfl rfl (sq_no rfl rfl (lr _) rfl rfl (sq_no rfl rfl (lr _) rfl rfl (sq_no rfl rfl (less_b g3) rfl rfl ?_)))))
    refine sq_ev rfl (ev_pickT (v := .raw _) (less_b g3) (lr _)) ?_
    refine sq_nil ?_
    refine aw_true (lr _) ?_
    refine aw_seq (aw_region ?_)
    refine asr (lr _) rfl (sq_nil (aw_ret ?_))
    exact retQ_pure (v := .raw _) rfl rfl (Less.eq (by rw [isCh, okAll_bad (i := k) (by omega) (by first | (simp [chBad, *]; done) | (simp_all [chBad]; done))]))
   ·
    have g3' := g3
    try simp only [qq] at g3'
    refine sq_yes rfl rfl (less_b g3) rfl (ev_mv (v := .sl _ _) (lr _)) ?_
    refine sq_yes rfl rfl (less_b g3) rfl (ev_mv (v := .raw _) (lr _)) ?_
    refine sq_yes rfl rfl (less_b g3) rfl (ev_call en62 (lr _) (has_pure _ _ hl) ⟨lr _, lr _, trivial⟩) ?_
    refine sq_yes rfl rfl (less_b g3) rfl (ev_mv (v := .raw _) (lr _)) ?_
    refine sq_split 32 (lr _) (fun g4 => ?_) (fun g4 => ?_)
    ·
     have g4' := g4
     try simp only [qq] at g4'
     refine sq_yes rfl rfl (less_b g4) rfl (ev_fieldAddr fo84_4 (lr _)) ?_
     refine sq_yes rfl rfl (less_b g4) rfl (ev_load (lr _) rfl ty3 rfl) ?_
     refine sq_yes rfl rfl (less_b g4) rfl (ev_geq (lr _) (lr _)) ?_
     refine sq_yes rfl rfl (less_b g3) rfl (ev_pickT (v := .raw _) (less_b g4) (lr _)) ?_
     refine sq_yes rfl rfl (less_b g3) rfl (ev_mv (v := .raw _) (lr _)) ?_
     refine sq_split 37 (lr _) (fun g5 => ?_) (fun g5 => ?_)
     ·
      have g5' := g5
      try simp only [qq] at g5'
      refine sq_yes rfl rfl (less_b g5) rfl (ev_mv (v := .sl _ _) (lr _)) ?_
      refine sq_yes rfl rfl (less_b g5) rfl (ev_fieldAddr fo84_4 (lr _)) ?_
      refine sq_yes rfl rfl (less_b g5) rfl (ev_load (lr _) rfl ty3 rfl) ?_
      refine sq_yes rfl rfl (less_b g5) rfl (ev_call en62 (lr _) (has_pure _ _ hl) ⟨lr _, lr _, trivial⟩) ?_
      refine sq_yes rfl rfl (less_b g5) rfl (ev_not (lr _)) ?_
      refine sq_yes rfl rfl (less_b g3) rfl (ev_pickT (v := .raw _) (less_b g5) (lr _)) ?_
      refine sq_ev rfl (ev_pickF (v := .raw _) (less_b g3) (lr _)) ?_
      refine sq_nil ?_
      refine aw_cond (lr _) (fun c6 => ?_) (fun c6 => ?_)
      ·
       have c6' := c6
       try simp only [qq] at c6'
       refine aw_seq (aw_region ?_)
       refine asr (lr _) rfl (sq_nil (aw_ret ?_))
       exact retQ_pure (v := .raw _) rfl rfl (Less.eq (by rw [isCh, okAll_bad (i := k) (by omega) (by first | (simp [chBad, *]; done) | (simp_all [chBad]; done))]))
      ·
       have c6' := c6
       try simp only [qq] at c6'
       refine aw_skip (aw_region ?_)
       refine mvr (lr _) rfl (sq_ev rfl (ev_add (lr _) (lr _) (wr (by omega) (by omega))) ?_)
       refine asr (lr _) rfl (sq_nil ?_)
       have hgood : chBad p l k (by omega) = false := by first | (simp [chBad, *]; done) | (simp_all [chBad]; done)
       exact ⟨⟨k + 1, by omega, fun i h hi => (by by_cases e : i = k; (subst e; exact hgood); exact hok i h (by omega))⟩, by simp only; omega, Sub.fin 1 ⟨lr _, lr _, lr _, trivial⟩ rfl (by simp [slotsIn, objsIn, sget, keepS, AObj.inB, AV.inB, AV.inL, AV.inE, inE_map]) (by simp [slotsIn, objsIn, sget, keepS, AObj.inB, AV.inB, AV.inL, AV.inE, inE_map]) (by simp [he0])⟩
     ·
      have g5' := g5
      try simp only [qq] at g5'
      refine sq_no rfl rfl (less_b g5) rfl rfl ?_
      refine sq_no rfl rfl (less_b g5) rfl rfl ?_
      refine sq_no rfl rfl (less_b g5) rfl rfl ?_
      refine sq_no rfl rfl (less_b g5) rfl rfl ?_
      refine sq_no rfl rfl (less_b g5) rfl rfl ?_
      refine sq_yes rfl rfl (less_b g3) rfl (ev_pickF (v := .raw _) (less_b g5) (lr _)) ?_
      refine sq_ev rfl (ev_pickF (v := .raw _) (less_b g3) (lr _)) ?_
      refine sq_nil ?_
      refine aw_false (lr _) ?_
      refine aw_skip (aw_region ?_)
      refine mvr (lr _) rfl (sq_ev rfl (ev_add (lr _) (lr _) (wr (by omega) (by omega))) ?_)
      refine asr (lr _) rfl (sq_nil ?_)
      have hgood : chBad p l k (by omega) = false := by first | (simp [chBad, *]; done) | (simp_all [chBad]; done)
      exact ⟨⟨k + 1, by omega, fun i h hi => (by by_cases e : i = k; (subst e; exact hgood); exact hok i h (by omega))⟩, by simp only; omega, Sub.fin 1 ⟨lr _, lr _, lr _, trivial⟩ rfl (by simp [slotsIn, objsIn, sget, keepS, AObj.inB, AV.inB, AV.inL, AV.inE, inE_map]) (by simp [slotsIn, objsIn, sget, keepS, AObj.inB, AV.inB, AV.inL, AV.inE, inE_map]) (by simp [he0])⟩
    ·
     have g4' := g4
     try simp only [qq] at g4'
     refine sq_no rfl rfl (less_b g4) rfl rfl ?_
     refine sq_no rfl rfl (less_b g4) rfl rfl ?_
     refine sq_no rfl rfl (less_b g4) rfl rfl ?_
     refine sq_yes rfl rfl (less_b g3) rfl (ev_pickF (v := .raw _) (less_b g4) (lr _)) ?_
     refine sq_yes rfl rfl (less_b g3) rfl (ev_mv (v := .raw _) (lr _)) ?_
     refine sq_no rfl rfl (lr _) rfl rfl (sq_no rfl rfl (lr _) rfl rfl (sq_no rfl rfl (lr _) rfl rfl (sq_no rfl rfl (lr _) rfl rfl (sq_no rfl rfl (lr _) rfl rfl (sq_yes rfl rfl (less_b g3) rfl (ev_pickF (v := .raw _) (lr _) (lr _)) ?_)))))
     refine sq_ev rfl (ev_pickF (v := .raw _) (less_b g3) (lr _)) ?_
     refine sq_nil ?_
     refine aw_false (lr _) ?_
     refine aw_skip (aw_region ?_)
     refine mvr (lr _) rfl (sq_ev rfl (ev_add (lr _) (lr _) (wr (by omega) (by omega))) ?_)
     refine asr (lr _) rfl (sq_nil ?_)
     have hgood : chBad p l k (by omega) = false := by first | (simp [chBad, *]; done) | (simp_all [chBad]; done)
     exact ⟨⟨k + 1, by omega, fun i h hi => (by by_cases e : i = k; (subst e; exact hgood); exact hok i h (by omega))⟩, by simp only; omega, Sub.fin 1 ⟨lr _, lr _, lr _, trivial⟩ rfl (by simp [slotsIn, objsIn, sget, keepS, AObj.inB, AV.inB, AV.inL, AV.inE, inE_map]) (by simp [slotsIn, objsIn, sget, keepS, AObj.inB, AV.inB, AV.inL, AV.inE, inE_map]) (by simp [he0])⟩
  ·
   have g2' := g2
   try simp only [qq] at g2'
   refine sq_no rfl rfl (less_b g2) rfl rfl ?_
   refine sq_no rfl rfl (less_b g2) rfl rfl ?_
   refine sq_no rfl rfl (less_b g2) rfl rfl ?_
   refine sq_ev rfl (ev_pickF (v := .raw _) (less_b g2) (lr _)) ?_
   refine mvr (lr _) rfl ?_
   refine ysl rfl rfl (lr _) rfl (lr _) ?_
   refine ymr rfl rfl (lr _) rfl (lr _) (sq_yes rfl rfl (lr _) rfl (ev_call en62 (lr _) (has_pure _ _ hl) ⟨lr _, lr _, trivial⟩) ?_)
   refine ymr rfl rfl (lr _) rfl (lr _) ?_
   refine sq_split 32 (lr _) (fun g7 => ?_) (fun g7 => ?_)
   ·
    have g7' := g7
    try simp only [qq] at g7'
    refine sq_yes rfl rfl (less_b g7) rfl (ev_fieldAddr fo84_4 (lr _)) ?_
    refine sq_yes rfl rfl (less_b g7) rfl (ev_load (lr _) rfl ty3 rfl) ?_
    refine sq_yes rfl rfl (less_b g7) rfl (ev_geq (lr _) (lr _)) ?_
    refine sq_yes rfl rfl (lr _) rfl (ev_pickT (v := .raw _) (less_b g7) (lr _)) ?_
    refine ymr rfl rfl (lr _) rfl (lr _) ?_
    refine sq_split 37 (lr _) (fun g8 => ?_) (fun g8 => ?_)
    ·
     have g8' := g8
     try simp only [qq] at g8'
     refine sq_yes rfl rfl (less_b g8) rfl (ev_mv (v := .sl _ _) (lr _)) ?_
     refine sq_yes rfl rfl (less_b g8) rfl (ev_fieldAddr fo84_4 (lr _)) ?_
     refine sq_yes rfl rfl (less_b g8) rfl (ev_load (lr _) rfl ty3 rfl) ?_
     refine sq_yes rfl rfl (less_b g8) rfl (ev_call en62 (lr _) (has_pure _ _ hl) ⟨lr _, lr _, trivial⟩) ?_
     refine sq_yes rfl rfl (less_b g8) rfl (ev_not (lr _)) ?_
     refine sq_yes rfl rfl (lr _) rfl (ev_pickT (v := .raw _) (less_b g8) (lr _)) ?_
     refine pf rfl (lr _) (lr _) (sq_nil ?_)
     refine aw_cond (lr _) (fun c9 => ?_) (fun c9 => ?_)
     ·
      have c9' := c9
      try simp only [qq] at c9'
      refine aw_seq (aw_region ?_)
      refine asr (lr _) rfl (sq_nil (aw_ret ?_))
      exact retQ_pure (v := .raw _) rfl rfl (Less.eq (by rw [isCh, okAll_bad (i := k) (by omega) (by first | (simp [chBad, *]; done) | (simp_all [chBad]; done))]))
     ·
      have c9' := c9
      try simp only [qq] at c9'
      refine aw_skip (aw_region ?_)
      refine mvr (lr _) rfl (sq_ev rfl (ev_add (lr _) (lr _) (wr (by omega) (by omega))) ?_)
      refine asr (lr _) rfl (sq_nil ?_)
      have hgood : chBad p l k (by omega) = false := by first | (simp [chBad, *]; done) | (simp_all [chBad]; done)
      exact ⟨⟨k + 1, by omega, fun i h hi => (by by_cases e : i = k; (subst e; exact hgood); exact hok i h (by omega))⟩, by simp only; omega, Sub.fin 1 ⟨lr _, lr _, lr _, trivial⟩ rfl (by simp [slotsIn, objsIn, sget, keepS, AObj.inB, AV.inB, AV.inL, AV.inE, inE_map]) (by simp [slotsIn, objsIn, sget, keepS, AObj.inB, AV.inB, AV.inL, AV.inE, inE_map]) (by simp [he0])⟩
    ·
     have g8' := g8
     try simp only [qq] at g8'
     refine sq_no rfl rfl (less_b g8) rfl rfl ?_
     refine sq_no rfl rfl (less_b g8) rfl rfl ?_
     refine sq_no rfl rfl (less_b g8) rfl rfl ?_
     refine sq_no rfl rfl (less_b g8) rfl rfl ?_
     refine sq_no rfl rfl (less_b g8) rfl rfl ?_
     refine sq_yes rfl rfl (lr _) rfl (ev_pickF (v := .raw _) (less_b g8) (lr _)) ?_
     refine pf rfl (lr _) (lr _) (sq_nil ?_)
     refine aw_false (lr _) ?_
     refine aw_skip (aw_region ?_)
     refine mvr (lr _) rfl (sq_ev rfl (ev_add (lr _) (lr _) (wr (by omega) (by omega))) ?_)
     refine asr (lr _) rfl (sq_nil ?_)
     have hgood : chBad p l k (by omega) = false := by first | (simp [chBad, *]; done) | (simp_all [chBad]; done)
     exact ⟨⟨k + 1, by omega, fun i h hi => (by by_cases e : i = k; (subst e; exact hgood); exact hok i h (by omega))⟩, by simp only; omega, Sub.fin 1 ⟨lr _, lr _, lr _, trivial⟩ rfl (by simp [slotsIn, objsIn, sget, keepS, AObj.inB, AV.inB, AV.inL, AV.inE, inE_map]) (by simp [slotsIn, objsIn, sget, keepS, AObj.inB, AV.inB, AV.inL, AV.inE, inE_map]) (by simp [he0])⟩
   ·
    have g7' := g7
    try simp only [qq] at g7'
    refine sq_no rfl rfl (less_b g7) rfl rfl ?_
    refine sq_no rfl rfl (less_b g7) rfl rfl ?_
    refine sq_no rfl rfl (less_b g7) rfl rfl ?_
    refine sq_yes rfl rfl (lr _) rfl (ev_pickF (v := .raw _) (less_b g7) (lr _)) ?_
    refine ymr rfl rfl (lr _) rfl (lr _) (sq_no rfl rfl (lr _) rfl rfl (sq_no rfl rfl (lr _) rfl rfl (sq_no rfl rfl (lr _) rfl rfl (sq_no rfl rfl (lr _) rfl rfl (sq_no rfl rfl (lr _) rfl rfl (sq_yes rfl rfl (lr _) rfl (ev_pickF (v := .raw _) (lr _) (lr _)) ?_))))))
    refine pf rfl (lr _) (lr _) (sq_nil ?_)
    refine aw_false (lr _) ?_
    refine aw_skip (aw_region ?_)
    refine mvr (lr _) rfl (sq_ev rfl (ev_add (lr _) (lr _) (wr (by omega) (by omega))) ?_)
    refine asr (lr _) rfl (sq_nil ?_)
    have hgood : chBad p l k (by omega) = false := by first | (simp [chBad, *]; done) | (simp_all [chBad]; done)
    exact ⟨⟨k + 1, by omega, fun i h hi => (by by_cases e : i = k; (subst e; exact hgood); exact hok i h (by omega))⟩, by simp only; omega, Sub.fin 1 ⟨lr _, lr _, lr _, trivial⟩ rfl (by simp [slotsIn, objsIn, sget, keepS, AObj.inB, AV.inB, AV.inL, AV.inE, inE_map]) (by simp [slotsIn, objsIn, sget, keepS, AObj.inB, AV.inB, AV.inL, AV.inE, inE_map]) (by simp [he0])⟩
 ·
  have c1' := c1
  try simp only [qq] at c1'
  refine aw_exit (aw_seq (aw_region ?_))
  refine asr (lr _) rfl (sq_nil (aw_ret ?_))
  exact retQ_pure (v := .raw _) rfl rfl (Less.eq (by rw [isCh, okAll_end hk c1' hok]))
end Go.Proofs.YtjghdbdiejaacaaGreatDoor
namespace Go.Proofs.YtjghdbdiejaacaaGreatDoor
open Go Go.Ab Ni
theorem en78 : Ent Tryz.prog 78 := Ent.of Tryz.func78 (by kernel_rfl) rfl
end Go.Proofs.YtjghdbdiejaacaaGreatDoor
namespace Go.Proofs.YtjghdbdiejaacaaGreatDoor
open Go Go.Ab Ni
section
variable {r : Option Nat} {H : List AObj} {ρ : Operand → AV} {d : Option Tmp} {t : TypeId} {p : String} {af : Array Edge} {g : Option (Nat × Bool)} {x y : Operand} {yt : TypeId} {a b c e : Int}
end
theorem rshort_pure (p : Pl) : APure Tryz.prog 20 [plan p] (B (decide (p.scenes.length ≤ 12))) := by
 refine apure_of (rs := [.tmp 2]) Tryz.func20 rfl rfl (Nat.le_of_ble_eq_true rfl) (by simp [AV.pureL, AV.pureB, AV.pureE, pureE_map]) (rfl) fun e0 he0 => ?_
 refine aw_seq (aw_region ?_)
 refine sq_box rfl (lr _) rfl (asr (lr _) rfl (sq_nil (aw_seq (aw_region ?_))))
 refine sq_ev rfl (ev_fieldAddr fo27_3 (lr _)) ?_
 refine sq_ev rfl (ev_load (lr _) rfl ty25 rfl) ?_
 refine sq_ev rfl (ev_len_map sl25 (lr _)) ?_
 refine sq_ev rfl (ev_leq (lr _) (lr _)) ?_
 refine asr (lr _) rfl (sq_nil (aw_ret ?_))
 exact retQ_pure (v := .raw _) rfl rfl (Less.eq (by simp; omega))
end Go.Proofs.YtjghdbdiejaacaaGreatDoor
namespace Go.Proofs.YtjghdbdiejaacaaGreatDoor
open Go Go.Ab Ni
theorem en20 : Ent Tryz.prog 20 := Ent.of Tryz.func20 (by kernel_rfl) rfl
theorem en21 : Ent Tryz.prog 21 := Ent.of Tryz.func21 (by kernel_rfl) rfl
theorem en24 : Ent Tryz.prog 24 := Ent.of Tryz.func24 (by kernel_rfl) rfl
theorem short_no {p : Pl} (h : ¬ p.scenes.length ≤ 12) : APure Tryz.prog 20 [plan p] (B false) := by have := rshort_pure p; simpa [h] using this
theorem short_yes {p : Pl} (h : p.scenes.length ≤ 12) : APure Tryz.prog 20 [plan p] (B true) := by have := rshort_pure p; simpa [h] using this
theorem plan_no {p : Pl} (hs : p.scenes.length ≤ 12) (h : PlOK p = false) : APure Tryz.prog 24 [plan p] (B false) := by have := plan_pure p (by omega); rwa [h] at this
theorem plan_yes {p : Pl} (hs : p.scenes.length ≤ 12) (h : PlOK p = true) : APure Tryz.prog 24 [plan p] (B true) := by have := plan_pure p (by omega); rwa [h] at this
theorem ch_yes {p : Pl} (hs : p.scenes.length ≤ 12) (h : PlOK p = true) : APure Tryz.prog 22 [plan p] (.tup [natss (choicesC p), I 0]) := by have := nChoices_pure p (by omega); rwa [if_pos h] at this
end Go.Proofs.YtjghdbdiejaacaaGreatDoor
namespace Go.Proofs.YtjghdbdiejaacaaGreatDoor
open Go Go.Ab Ni
section
variable {r : Option Nat} {H : List AObj} {ρ : Operand → AV} {d : Option Tmp} {t : TypeId} {p : String} {af : Array Edge} {g : Option (Nat × Bool)} {x y : Operand} {yt : TypeId}
end
theorem ok_len {p : Pl} (h : PlOK p = true) : p.scenes.length ≤ 10 := by
  unfold PlOK at h
  simp only [Bool.and_eq_true, decide_eq_true_eq, inn] at h
  omega
end Go.Proofs.YtjghdbdiejaacaaGreatDoor
namespace Go.Proofs.YtjghdbdiejaacaaGreatDoor
open Go Go.Ab Ni
theorem en39 : Ent Tryz.prog 39 := Ent.of Tryz.func39 (by kernel_rfl) rfl
theorem en45 : Ent Tryz.prog 45 := Ent.of Tryz.func45 (by kernel_rfl) rfl
theorem en47 : Ent Tryz.prog 47 := Ent.of Tryz.func47 (by kernel_rfl) rfl
theorem en77 : Ent Tryz.prog 77 := Ent.of Tryz.func77 (by kernel_rfl) rfl
theorem rwindow0_pure (p : Pl) : APure Tryz.prog 39 [plan p, I 0] (.agg (spanC (wl p 0) (wh p 0))) := by
  refine apure_of (rs := [.cell 4 23]) Tryz.func39 rfl rfl (Nat.le_of_ble_eq_true rfl) (by simp [AV.pureL, AV.pureB, AV.pureE, pureE_map]) (rfl) fun e0 he0 => ?_
  refine aw_seq (aw_region ?_)
  refine sq_box rfl (lr _) rfl ?_
  refine sq_alloc rfl z23 ?_
  refine sq_nil (aw_seq (aw_seq (aw_region ?_)))
  refine mvr (lr _) rfl (sq_ev rfl (ev_eql (lr _) (lr _)) ?_)
  refine sq_nil ?_
  refine aw_cond (lr _) (fun c1 => ?_) (fun c1 => ?_)
  · skip
    have c1' := c1
    try simp only [qq] at c1'
    try exact absurd c1' (by decide)
  · skip
    have c1' := c1
    try simp only [qq] at c1'
    try exact absurd (by decide) c1'
    refine aw_skip (aw_seq (aw_region ?_))
    refine mvr (lr _) rfl (sq_ev rfl (ev_fieldAddr fo27_1 (lr _)) ?_)
    refine sq_ev rfl (ev_index_box (k := 0) ar24 (lr _) (lr _) rfl (by decide)) ?_
    refine sq_ev rfl (ev_load_agg (lr _) rfl ty23 rfl) ?_
    refine sq_store rfl (lr _) (lr _) rfl rfl ty23 rfl rfl ?_
    refine sq_nil (aw_ret ?_)
    exact retQ_res (vs := [.agg _]) rfl rfl ⟨resVar_cell rfl rfl ty23 rfl, trivial⟩ (Less.eq (by simp [wl, wh]))
theorem rwindow1_pure (p : Pl) : APure Tryz.prog 39 [plan p, I 1] (.agg (spanC (wl p 1) (wh p 1))) := by
 refine apure_of (rs := [.cell 4 23]) Tryz.func39 rfl rfl (Nat.le_of_ble_eq_true rfl) (by simp [AV.pureL, AV.pureB, AV.pureE, pureE_map]) (rfl) fun e0 he0 => ?_
 refine aw_seq (aw_region ?_)
 refine sq_box rfl (lr _) rfl ?_
 refine sq_alloc rfl z23 ?_
 refine sq_nil (aw_seq (aw_seq (aw_region ?_)))
 refine mvr (lr _) rfl (sq_ev rfl (ev_eql (lr _) (lr _)) ?_)
 refine sq_nil ?_
 refine aw_cond (lr _) (fun c1 => ?_) (fun c1 => ?_)
 ·
  have c1' := c1
  try simp only [qq] at c1'
  try exact absurd c1' (by decide)
 ·
  have c1' := c1
  try simp only [qq] at c1'
  try exact absurd (by decide) c1'
  refine aw_skip (aw_seq (aw_region ?_))
  refine mvr (lr _) rfl (sq_ev rfl (ev_fieldAddr fo27_1 (lr _)) ?_)
  refine sq_ev rfl (ev_index_box (k := 1) ar24 (lr _) (lr _) rfl (by decide)) ?_
  refine sq_ev rfl (ev_load_agg (lr _) rfl ty23 rfl) ?_
  refine sq_store rfl (lr _) (lr _) rfl rfl ty23 rfl rfl ?_
  refine sq_nil (aw_ret ?_)
  exact retQ_res (vs := [.agg _]) rfl rfl ⟨resVar_cell rfl rfl ty23 rfl, trivial⟩ (Less.eq (by simp [wl, wh]))
theorem rwindow2_pure (p : Pl) : APure Tryz.prog 39 [plan p, I 2] (.agg (spanC (wl p 2) (wh p 2))) := by
 refine apure_of (rs := [.cell 4 23]) Tryz.func39 rfl rfl (Nat.le_of_ble_eq_true rfl) (by simp [AV.pureL, AV.pureB, AV.pureE, pureE_map]) (rfl) fun e0 he0 => ?_
 refine aw_seq (aw_region ?_)
 refine sq_box rfl (lr _) rfl ?_
 refine sq_alloc rfl z23 ?_
 refine sq_nil (aw_seq (aw_seq (aw_region ?_)))
 refine mvr (lr _) rfl (sq_ev rfl (ev_eql (lr _) (lr _)) ?_)
 refine sq_nil ?_
 refine aw_cond (lr _) (fun c1 => ?_) (fun c1 => ?_)
 ·
  have c1' := c1
  try simp only [qq] at c1'
  try exact absurd c1' (by decide)
  refine aw_seq (aw_region ?_)
  refine sq_ev rfl (ev_fieldAddr fo27_2 (lr _)) ?_
  refine sq_ev rfl (ev_load_agg (lr _) rfl ty23 rfl) ?_
  refine sq_store rfl (lr _) (lr _) rfl rfl ty23 rfl rfl ?_
  refine sq_nil (aw_ret ?_)
  exact retQ_res (vs := [.agg _]) rfl rfl ⟨resVar_cell rfl rfl ty23 rfl, trivial⟩ (Less.eq (by simp [wl, wh]))
 ·
  have c1' := c1
  try simp only [qq] at c1'
  try exact absurd (by decide) c1'
theorem rwindow_pure (p : Pl) (k : Nat) (h : k < 3) : APure Tryz.prog 39 [plan p, I k] (.agg (spanC (wl p k) (wh p k))) := by
  rcases k with _ | _ | _ | k
  · exact rwindow0_pure p
  · exact rwindow1_pure p
  · exact rwindow2_pure p
  · omega
theorem rslim_pure (l : List Int) : APure Tryz.prog 45 [ints l] (B (decide (l.length ≤ 12))) := by
 refine apure_of (rs := [.tmp 2]) Tryz.func45 rfl rfl (Nat.le_of_ble_eq_true rfl) (by simp [AV.pureL, AV.pureB, AV.pureE, pureE_map]) (rfl) fun e0 he0 => ?_
 refine aw_seq (aw_region ?_)
 refine asr (lr _) rfl (sq_nil (aw_seq (aw_region ?_)))
 refine mvs rfl (lr _) (sq_ev rfl (ev_len_map sl34 (lr _)) ?_)
 refine sq_ev rfl (ev_leq (lr _) (lr _)) ?_
 refine asr (lr _) rfl (sq_nil (aw_ret ?_))
 exact retQ_pure (v := .raw _) rfl rfl (Less.eq (by simp; omega))
theorem rchoice_pure (p : Pl) (l : List Int) (hp : p.scenes.length ≤ 1000000) (hl : l.length ≤ 1000000) : APure Tryz.prog 47 [plan p, ints l] (B (Ris p l && isCh p l)) := by
 refine apure_of (rs := [.tmp 4]) Tryz.func47 rfl rfl (Nat.le_of_ble_eq_true rfl) (by simp [AV.pureL, AV.pureB, AV.pureE, pureE_map]) (rfl) fun e0 he0 => ?_
 refine aw_seq (aw_region ?_)
 refine sq_box rfl (lr _) rfl (asr (lr _) rfl (sq_nil (aw_seq (aw_region ?_))))
 refine sq_ev rfl (ev_load_agg (lr _) rfl ty27 rfl) ?_
 refine mvs rfl (lr _) (sq_ev rfl (ev_call en77 (lr _) (rising_pure p l hp hl) ⟨lr _, lr _, trivial⟩) ?_)
 refine mvr (lr _) rfl ?_
 refine sq_split 8 (lr _) (fun g1 => ?_) (fun g1 => ?_)
 ·
  have g1' := g1
  try simp only [qq] at g1'
  refine sq_yes rfl rfl (less_b g1) rfl (ev_load_agg (lr _) rfl ty27 rfl) ?_
  refine sq_yes rfl rfl (less_b g1) rfl (ev_mv (v := .sl _ _) (lr _)) ?_
  refine sq_yes rfl rfl (less_b g1) rfl (ev_call en78 (lr _) (choice_pure p l hp hl) ⟨lr _, lr _, trivial⟩) ?_
  refine sq_ev rfl (ev_pickT (v := .raw _) (less_b g1) (lr _)) ?_
  refine asr (lr _) rfl (sq_nil (aw_ret ?_))
  exact retQ_pure (v := .raw _) rfl rfl (Less.eq (by simp [*]))
 ·
  have g1' := g1
  try simp only [qq] at g1'
  refine sq_no rfl rfl (less_b g1) rfl rfl ?_
  refine sq_no rfl rfl (less_b g1) rfl rfl ?_
  refine sq_no rfl rfl (less_b g1) rfl rfl ?_
  refine sq_ev rfl (ev_pickF (v := .raw _) (less_b g1) (lr _)) ?_
  refine asr (lr _) rfl (sq_nil (aw_ret ?_))
  exact retQ_pure (v := .raw _) rfl rfl (Less.eq (by simp [*]))
end Go.Proofs.YtjghdbdiejaacaaGreatDoor
namespace Go.Proofs.YtjghdbdiejaacaaGreatDoor
open Go Go.Ab Ni
theorem en55 : Ent Tryz.prog 55 := Ent.of Tryz.func55 (by kernel_rfl) rfl
def canAV (p : Pl) (l : List Int) : AV := if chosenB p l = true then .tup [B (canP p (dn l)), I 0] else .tup [B false, I 2]
theorem canAV_pure (p : Pl) (l : List Int) : (canAV p l).pureB = true := by unfold canAV; split <;> rfl
theorem nCan_pure (p : Pl) (l : List Int) (hp : p.scenes.length ≤ 1000000) (hl : l.length ≤ 1000000) : APure Tryz.prog 55 [plan p, ints l] (canAV p l) := by
 refine apure_of (rs := [.tmp 4, .tmp 5]) Tryz.func55 rfl rfl (Nat.le_of_ble_eq_true rfl) (by simp [AV.pureL, AV.pureB, AV.pureE, pureE_map]) (canAV_pure p l) fun e0 he0 => ?_
 refine aw_seq (aw_region ?_)
 refine sq_box rfl (lr _) rfl (asr (lr _) rfl (asr (lr _) rfl (sq_nil (aw_seq (aw_region ?_)))))
 refine sq_ev rfl (ev_load_agg (lr _) rfl ty27 rfl) ?_
 refine mvs rfl (lr _) (sq_ev rfl (ev_call en107 (lr _) (nchosen_pure p l hp hl) ⟨lr _, lr _, trivial⟩) ?_)
 refine sq_ev rfl (ev_mv (v := .tup _) (lr _)) ?_
 refine xtr rfl (lr _) rfl (xtr rfl (lr _) rfl ?_)
 refine sq_alloc rfl z110 ?_
 refine sq_store rfl (lr _) (lr _) rfl rfl ty110 rfl rfl ?_
 refine asr (lr _) rfl (sq_nil (aw_seq (aw_seq (aw_region ?_))))
 refine mvr (lr _) rfl (sq_ev rfl (ev_not (lr _)) ?_)
 refine sq_nil ?_
 refine aw_cond (lr _) (fun c1 => ?_) (fun c1 => ?_)
 ·
  have c1' := c1
  try simp only [qq] at c1'
  refine aw_seq (aw_region ?_)
  refine asr (lr _) rfl (asr (lr _) rfl (sq_nil (aw_ret ?_)))
  exact retQ_pure (v := .tup [.raw _, .raw _]) rfl rfl (Less.eq (by simp [canAV, c1']))
 ·
  have c1' := c1
  try simp only [qq] at c1'
  obtain ⟨l', rfl, cv, gp, wp⟩ := chosen_up c1'
  refine aw_skip (aw_seq (aw_region ?_))
  refine sq_ev rfl (ev_load_agg (lr _) rfl ty110 rfl) ?_
  refine sq_ev rfl (ev_call en88 (lr _) (ncan_pure p l' gp cv) ⟨Less.eq (playedI_up p l'), trivial⟩) ?_
  refine asr (lr _) rfl (asr (lr _) rfl (sq_nil (aw_ret ?_)))
  exact retQ_pure (v := .tup [.raw _, .raw _]) rfl rfl (Less.eq (by simp [canAV, c1', dn_up]))
end Go.Proofs.YtjghdbdiejaacaaGreatDoor
namespace Go.Proofs.YtjghdbdiejaacaaGreatDoor
open Go Go.Ab Ni
theorem slim_no {l : List Int} (h : ¬ l.length ≤ 12) : APure Tryz.prog 45 [ints l] (B false) := by have := rslim_pure l; simpa [h] using this
theorem slim_yes {l : List Int} (h : l.length ≤ 12) : APure Tryz.prog 45 [ints l] (B true) := by have := rslim_pure l; simpa [h] using this
theorem ints_up (l : List Nat) : ints (up l) = nats l := by simp only [ints, eup]
theorem slim_yesN {l : List Nat} (h : l.length ≤ 12) : APure Tryz.prog 45 [nats l] (B true) := by have := slim_yes (l := up l) (by simpa [up] using h); rwa [ints_up] at this
theorem cho_no {p : Pl} {l : List Int} (hs : p.scenes.length ≤ 12) (hl : l.length ≤ 12) (h : (Ris p l && isCh p l) = false) : APure Tryz.prog 47 [plan p, ints l] (B false) := by have := rchoice_pure p l (by omega) (by omega); rwa [h] at this
theorem cho_yesN {p : Pl} {l : List Nat} (hs : p.scenes.length ≤ 12) (hl : l.length ≤ 12) (h : (Ris p (up l) && isCh p (up l)) = true) : APure Tryz.prog 47 [plan p, nats l] (B true) := by have := rchoice_pure p (up l) (by omega) (by simp [up]; omega); rwa [h, ints_up] at this
end Go.Proofs.YtjghdbdiejaacaaGreatDoor
namespace Go.Proofs.YtjghdbdiejaacaaGreatDoor
open Go Go.Ab Ni
theorem cn_yes {p : Pl} {l : List Nat} (hs : p.scenes.length ≤ 12) (hl : l.length ≤ 12) (hc : chosenB p (up l) = true) : APure Tryz.prog 55 [plan p, nats l] (.tup [B (canP p l), I 0]) := by
  have := nCan_pure p (up l) (by omega) (by simp [up]; omega); unfold canAV at this; rwa [if_pos hc, ints_up, dn_up] at this
end Go.Proofs.YtjghdbdiejaacaaGreatDoor
namespace Go.Proofs.YtjghdbdiejaacaaGreatDoor
open Go Go.Ab Ni
section
variable {p : Pl} {l : List Nat} {n k : Nat} (wp : WP p) (cv : CV p l) (inc : l.Pairwise (· < ·)) (hc : can p l = true) (hm : n ∈ l) (hk : (scn p n).part = (k : Int)) (hk3 : k < 3)
include wp cv inc hc hm hk hk3
end
theorem sc_pure {p : Pl} {n : Int} {b : Bool} (hs : p.scenes.length ≤ 12) (h : isSc p n = b) : APure Tryz.prog 35 [plan p, I n] (B b) := by subst h; exact scene_pure p n (by omega)
end Go.Proofs.YtjghdbdiejaacaaGreatDoor
namespace Go.Proofs.YtjghdbdiejaacaaGreatDoor
open Go Go.Ab Ni
theorem en57 : Ent Tryz.prog 57 := Ent.of Tryz.func57 (by kernel_rfl) rfl
theorem rlisted_pure (L : List (List Nat)) (x : List Nat) (hL : L.length ≤ 1000000) (hb : ∀ l ∈ L, l.length ≤ 1000) (hx : x.length ≤ 1000) : APure Tryz.prog 57 [natss L, nats x] (B (decide (x ∈ L))) := by
 refine apure_of (rs := [.tmp 4]) Tryz.func57 rfl rfl (Nat.le_of_ble_eq_true rfl) (by simp [AV.pureL, AV.pureB, AV.pureE, pureE_map]) (rfl) fun e0 he0 => ?_
 refine aw_seq (aw_region ?_)
 refine asr (lr _) rfl (sq_nil (aw_seq (aw_seq (aw_region ?_))))
 refine asr (lr _) rfl (sq_nil (aw_block ?_))
 refine aw_loopk (ι := { k : Nat // k ≤ L.length ∧ ∀ i, (hi : i < L.length) → i < k → L[i] ≠ x }) [0, 1] (fun i => [(5, I i.1)]) (fun H i => H) (fun i => L.length - i.1) (⟨0, Nat.zero_le _, by omega⟩) ⟨lr _, lr _, lr _, trivial⟩ rfl ?_
 rintro ⟨k, hk, hok⟩
 dsimp only [keepS, St.put, sget, slotsOf, List.map_cons, List.map_nil, List.cons_append, List.nil_append, List.length_cons, List.length_nil, Nat.reduceBEq, Nat.reduceAdd, cond_true, cond_false]
 refine aw_seq (aw_seq (aw_region ?_))
 refine mvr (lr _) rfl (mvs rfl (lr _) (sq_ev rfl (ev_len_map sl30 (lr _)) ?_))
 refine sq_ev rfl (ev_lss (lr _) (lr _)) ?_
 refine sq_nil ?_
 refine aw_cond (lr _) (fun c1 => ?_) (fun c1 => ?_)
 ·
  have c1' := c1
  try simp only [qq] at c1'
  have hkL : k < L.length := by omega
  refine aw_skip (aw_seq (aw_block (aw_seq (aw_region ?_))))
  refine mvs rfl (lr _) (mvr (lr _) rfl (sq_ev rfl (ev_index_map sl30 (lr _) (lr _) rfl (by omega)) ?_))
  refine sq_ev rfl (ev_load_i (lr _) ty34 rfl) ?_
  refine mvs rfl (lr _) (sq_ev rfl (ev_call en27 (lr _) (same_pureN L[k] x (hb _ (List.getElem_mem hkL)) hx) ⟨lr _, lr _, trivial⟩) ?_)
  refine sq_nil ?_
  refine aw_cond (lr _) (fun c2 => ?_) (fun c2 => ?_)
  ·
   have c2' := c2
   try simp only [qq] at c2'
   refine aw_seq (aw_region ?_)
   refine asr (lr _) rfl (sq_nil (aw_ret ?_))
   exact retQ_pure (v := .raw _) rfl rfl (Less.eq (by rw [decide_eq_true (show x ∈ L from c2' ▸ List.getElem_mem hkL)]))
  ·
   have c2' := c2
   try simp only [qq] at c2'
   refine aw_skip (aw_region ?_)
   refine mvr (lr _) rfl (sq_ev rfl (ev_add (lr _) (lr _) (wr (by omega) (by omega))) ?_)
   refine asr (lr _) rfl (sq_nil ?_)
   exact ⟨⟨k + 1, by omega, fun i hi h => (by by_cases e : i = k; (subst e; simpa using c2'); exact hok i hi (by omega))⟩, by simp only; omega, Sub.slots ⟨lr _, lr _, lr _, trivial⟩⟩
 ·
  have c1' := c1
  try simp only [qq] at c1'
  refine aw_exit (aw_seq (aw_region ?_))
  refine asr (lr _) rfl (sq_nil (aw_ret ?_))
  exact retQ_pure (v := .raw _) rfl rfl (Less.eq (by rw [decide_eq_false (show ¬ x ∈ L from fun hm => by obtain ⟨i, hi, e⟩ := List.getElem_of_mem hm; exact hok i hi (by omega) e)]))
theorem list_val {L : List (List Nat)} {x : List Nat} {v : Bool} (hL : L.length ≤ 1000000) (hb : ∀ l ∈ L, l.length ≤ 1000) (hx : x.length ≤ 1000) (h : decide (x ∈ L) = v) : APure Tryz.prog 57 [natss L, nats x] (B v) := by
  subst h; exact rlisted_pure L x hL hb hx
theorem in_len {p : Pl} {x : List Nat} (ok : PlOK p = true) (h : x ∈ choicesC p) : x.length ≤ 10 := by
  obtain ⟨h1, h2, _⟩ := allC_iff.1 (List.mem_filter.1 h).1
  have := inc_len h1 h2; have := ok_len ok; omega
theorem ch_val {p : Pl} {L : List (List Nat)} (hs : p.scenes.length ≤ 12) (ok : PlOK p = true) (hL : choicesC p = L) : APure Tryz.prog 22 [plan p] (.tup [natss L, I 0]) := by subst hL; exact ch_yes hs ok
end Go.Proofs.YtjghdbdiejaacaaGreatDoor
namespace Go.Proofs.YtjghdbdiejaacaaGreatDoor
open Go Go.Ab Ni
theorem pl_val {p : Pl} {b : Bool} (hl : p.scenes.length ≤ 1000) (h : PlOK p = b) : APure Tryz.prog 24 [plan p] (B b) := by subst h; exact plan_pure p (by omega)
end Go.Proofs.YtjghdbdiejaacaaGreatDoor
namespace Go.Proofs.YtjghdbdiejaacaaGreatDoor
open Go Go.Ab Ni
theorem en56 : Ent Tryz.prog 56 := Ent.of Tryz.func56 (by kernel_rfl) rfl
def moreP (p : Pl) (n : Nat) (x : Int) : Pl := { p with scenes := p.scenes.set n { scn p n with most := (scn p n).most + x } }
end Go.Proofs.YtjghdbdiejaacaaGreatDoor
namespace Go.Proofs.YtjghdbdiejaacaaGreatDoor
open Go Go.Ab Ni
theorem aw_join {c : Ctx} {Q : AExit → St → Prop} {s : St} (V : List (Nat × AV)) (ks : List Nat) {a b : Code} (ha : AWP c a (AExit.then (fun s' => LessS s'.sl (V ++ keepS s.sl ks) ∧ s'.H = s.H ∧ s'.df = s.df) Q) s)
    (hb : AWP c b Q ⟨V ++ keepS s.sl ks, s.H, s.df⟩) : AWP c a (AExit.then (AWP c b Q) Q) s := by
  refine AWP.mono ha fun ax s' h => ?_
  cases ax with
  | normal =>
    obtain ⟨h1, h2, h3⟩ := h
    have h4 := aw_less (s := s') (Q := Q) (code := b) _ h1.all (by rw [h2, h3]; exact hb)
    exact h4
  | _ => exact h
theorem moreP_len (p : Pl) (n : Nat) (x : Int) : (moreP p n x).scenes.length = p.scenes.length := by simp [moreP]
theorem moreP_scn {p : Pl} {n : Nat} (hn : n < p.scenes.length) (x : Int) (j : Nat) : scn (moreP p n x) j = if j = n then { scn p n with most := (scn p n).most + x } else scn p j := by
  unfold scn moreP
  simp only [List.getD_eq_getElem?_getD, List.getElem?_set]
  by_cases e : j = n
  · subst e; simp [hn, scn, List.getD_eq_getElem?_getD]
  · rw [if_neg (fun h => e h.symm), if_neg e]
end Go.Proofs.YtjghdbdiejaacaaGreatDoor
namespace Go.Proofs.YtjghdbdiejaacaaGreatDoor
open Go Go.Ab Ni
section
variable [Tabs]
theorem less_mslp {i o n c : Nat} : Less (.msl i o n c) (.mslp i o n) := by
  intro e v h
  have h : Rep e (.msl i o n c) v := h
  show Rep e (.mslp i o n) v
  rw [Rep] at h
  obtain ⟨h1, h2, b, h3, h4, h5⟩ := h
  rw [Rep]
  exact ⟨h1, h2, b, c, h3, h4, h5⟩
theorem repL_pad {e : Env} : ∀ {L R : List AV} {vs : List Value}, RepL e (L ++ R) vs → RepL e (L ++ List.replicate R.length .any) vs
  | [], R, vs, h => by
    have h1 := h.length
    have h2 := RepL.anys (e := e) vs
    rw [h1] at h2; simpa using h2
  | a :: L, R, vs, h => by
    rw [List.cons_append, RepL] at h
    obtain ⟨v, rest, rfl, h2, h3⟩ := h
    exact RepL.cons h2 (repL_pad h3)
variable {c : Ctx} {Q : AExit → St → Prop} {s : St}
theorem env_reH {e0 e : Env} (ok : EnvOK e) (fr : Fr e0 e) {H' : List AObj} (hl : H'.length = e.H.length) (hT : ∀ i : Nat, tokOf (H'[i]?) = tokOf (e.H[i]?))
    (ho : ∀ e' : Env, e' = { e with H := H' } → e.Le e' → ∀ (i : Nat) o, H'[i]? = some o → ObjSim e' i o) : e.Le { e with H := H' } ∧ EnvOK { e with H := H' } ∧ Fr e0 { e with H := H' } := by
  have hT' : ∀ i : Nat, ({ e with H := H' } : Env).T i = e.T i := fun i => by unfold Env.T; simp only; rw [hT]
  have le : e.Le { e with H := H' } := ⟨by simp only; omega, fun j _ ht => ⟨by rw [hT']; exact ht, fun _ hb => hb⟩, fun b off h => ⟨h, rfl⟩, fun j n ht => ⟨n, by rw [hT']; exact ht, Nat.le_refl _, fun _ => ⟨rfl, fun b cs t _ hh => ⟨rfl, cs, hh, rfl⟩⟩⟩⟩
  exact ⟨le, ⟨ok.fresh, fun j o h => ho _ rfl le j o h, fun j k b hj hk => ok.inj j k b (by simp only at hj; omega) (by simp only at hk; omega), fun j b hj hm => ok.live j b (by simp only at hj; omega) hm,
    ok.tabs.sub rfl fun j b hj hm => ⟨j, by simp only at hj; omega, hm⟩⟩, ⟨fr.size, fr.still, fr.heap, fun j b hj hm => fr.objs j b (by simp only at hj; omega) hm, fr.le.trans le⟩⟩
theorem sim_reH {e : Env} {a : Act} (hs : Sim c s e a) {H' : List AObj} (hlen : H'.length = s.H.length) (hT : ∀ i : Nat, tokOf (H'[i]?) = tokOf (s.H[i]?))
    (ho : ∀ e' : Env, e' = { e with H := H' } → e.Le e' → ∀ (i : Nat) o, H'[i]? = some o → ObjSim e' i o) : Sim c { s with H := H' } { e with H := H' } a := by
  obtain ⟨le, ok, fr⟩ := env_reH hs.ok hs.fr (H' := H') (by rw [hs.H]; exact hlen) (by rw [hs.H]; exact hT) ho
  exact ⟨hs.size, fun t => Rep.mono le _ (hs.slots t), hs.defers.mono le, rfl, ok, fr⟩
/-- less is told of an object -/
inductive WkO : AObj → AObj → Prop
  | same (o : AObj) : WkO o o
  | dead (l : List AV) : WkO (.cells l) .dead
  | pre (L R : List AV) : WkO (.cells (L ++ R)) (.pre L)
inductive WkL : List AObj → List AObj → Prop
  | nil : WkL [] []
  | cons {o o' : AObj} {l l' : List AObj} (h : WkO o o') (k : WkL l l') : WkL (o :: l) (o' :: l')
theorem wkl_get : ∀ {X Y : List AObj}, WkL X Y → Y.length = X.length ∧ ∀ (i : Nat) o', Y[i]? = some o' → ∃ o, X[i]? = some o ∧ WkO o o'
  | _, _, .nil => ⟨rfl, fun i o' h => by simp at h⟩
  | _, _, .cons h k => by
    obtain ⟨k1, k2⟩ := wkl_get k
    refine ⟨by simp [k1], fun i o' hi => ?_⟩
    cases i with
    | zero => simp only [List.getElem?_cons_zero, Option.some.injEq] at hi; subst hi; exact ⟨_, rfl, h⟩
    | succ i => exact k2 i o' (by simpa using hi)
theorem wkl_tok {X Y : List AObj} (h : WkL X Y) (i : Nat) : tokOf (Y[i]?) = tokOf (X[i]?) := by
  obtain ⟨h1, h2⟩ := wkl_get h
  cases hy : Y[i]? with
  | none => rw [List.getElem?_eq_none_iff] at hy; rw [List.getElem?_eq_none (by omega)]
  | some o' =>
    obtain ⟨o, ho, hw⟩ := h2 i o' hy
    rw [ho]
    cases hw <;> rfl
theorem wkl_sim {e e' : Env} {H' : List AObj} (h : WkL e.H H') (ok : EnvOK e) (he : e' = { e with H := H' }) (le : e.Le e') (i : Nat) (o : AObj) (hi : H'[i]? = some o) : ObjSim e' i o := by
  obtain ⟨o1, h1, hw⟩ := (wkl_get h).2 i o hi
  have hk := ok.objs i o1 h1
  have hm : ∀ o, ObjSim e i o → ObjSim e' i o := fun o k => ObjSim.mono le k (by rw [he]) fun b _ => by rw [he]; exact ⟨rfl, rfl⟩
  cases hw with
  | same => exact hm _ hk
  | dead => trivial
  | pre L R =>
    obtain ⟨b, cs, t, k1, k2, k3, k4, k5⟩ := hm _ hk
    exact ⟨b, cs, t, R.length, k1, k2, k3, repL_pad k4, k5⟩
theorem acall_wk {P : Program} {f : FuncId} {args : List AV} {H : List AObj} {R R' : ARes → List AObj → Prop} (h : ACall P f args H R) (k : ∀ x H1, R x H1 → ∃ v v' H2, x = .ret v ∧ Less v v' ∧ WkL H1 H2 ∧ R' (.ret v') H2) : ACall P f args H R' := by
  intro e vs ok hH hs
  refine (h e vs ok hH hs).mono ?_
  rintro x w' ⟨ax, e', rfl, ok', fr, hR, hend⟩
  obtain ⟨v, v', H2, rfl, hl, hw, hR'⟩ := k _ _ hR
  obtain ⟨le, ok2, fr2⟩ := env_reH ok' fr (wkl_get hw).1 (wkl_tok hw) fun e2 he2 le i o hi => wkl_sim hw ok' he2 le i o hi
  obtain ⟨u, rfl, hu⟩ := hend
  exact ⟨.ret v', { e' with H := H2 }, rfl, ok2, fr2, hR', u, rfl, hl _ _ (Rep.mono le _ hu)⟩
theorem aw_open {code : Code} {j k f len : Nat} {L PL : List AV} (hj : s.H[j]? = some (.pre L)) (hk : s.H[k]? = some (.cells PL)) (hf : PL[f]? = some (.mslp j 0 len))
    (h : ∀ cap m, len ≤ cap → AWP c code Q { s with H := (s.H.set j (.cells (L ++ List.replicate m .any))).set k (.cells (PL.set f (.msl j 0 len cap))) }) : AWP c code Q s := by
  intro e a hs
  have hjl := lt_of_get? hj
  have hkl := lt_of_get? hk
  have hjk : j ≠ k := fun e => by subst e; rw [hj] at hk; cases hk
  obtain ⟨b, cs, t, m, k1, k2, k3, k4, k5⟩ := hs.ok.objs j _ (by rw [hs.H]; exact hj)
  obtain ⟨bk, csk, tk, q1, q2, q3, q4, q5⟩ := hs.ok.objs k _ (by rw [hs.H]; exact hk)
  obtain ⟨v, hv, hr⟩ := q4.get f _ hf
  have hfl := lt_of_get? hv
  rw [Rep] at hr
  obtain ⟨r1, r2, b', cap, r3, rfl, r5⟩ := hr
  refine h cap m r5 { e with H := (s.H.set j (.cells (L ++ List.replicate m .any))).set k (.cells (PL.set f (.msl j 0 len cap))) } a (sim_reH hs (by simp) (fun i => ?_) fun e' he' le i o hi => ?_)
  · by_cases h1 : k = i
    · subst h1; rw [List.getElem?_set_self (by simpa using hkl), hk]; rfl
    · rw [List.getElem?_set_ne h1]
      by_cases h2 : j = i
      · subst h2; rw [List.getElem?_set_self hjl, hj]; rfl
      · rw [List.getElem?_set_ne h2]
  · by_cases h1 : k = i
    · subst h1
      rw [List.getElem?_set_self (by simpa using hkl)] at hi
      cases hi
      have hm : Rep e' (.msl j 0 len cap) (.slice (some ⟨b', 0, none⟩) len cap) := by
        have h3 := le.obj j r1 r2
        rw [Rep]; exact ⟨Nat.lt_of_lt_of_le r1 le.len, h3.1, b', h3.2 _ r3, rfl, r5⟩
      have h4 := RepL.set f (RepL.mono le _ q4) hm
      have h5 : csk.toList.set f (.slice (some ⟨b', 0, none⟩) len cap) = csk.toList := by
        obtain ⟨g1, g2⟩ := List.getElem?_eq_some_iff.1 hv
        rw [← g2]; exact List.set_getElem_self g1
      rw [h5] at h4
      exact ⟨bk, csk, tk, by rw [he']; exact q1, by rw [he']; exact q2, by rw [he']; exact q3, h4, q5⟩
    · rw [List.getElem?_set_ne h1] at hi
      by_cases h2 : j = i
      · subst h2
        rw [List.getElem?_set_self hjl] at hi
        cases hi
        exact ⟨b, cs, t, by rw [he']; exact k1, by rw [he']; exact k2, by rw [he']; exact k3, RepL.mono le _ k4, k5⟩
      · rw [List.getElem?_set_ne h2] at hi
        exact ObjSim.mono le (hs.ok.objs i o (by rw [hs.H]; exact hi)) (by rw [he']) fun b _ => by rw [he']; exact ⟨rfl, rfl⟩
end
section
variable [Tabs] {c : Ctx} {Q : AExit → St → Prop} {H : List AObj} {df : List ADef} {ρ : Operand → AV} {d : Option Tmp} {t : TypeId} {p : String} {af : Array Edge}
end
section
variable [Tabs] {c : Ctx} {Q : AExit → St → Prop} {s : St}
theorem sim_adopt {e : Env} {a : Act} (hs : Sim c s e a) {id b : Nat} {ob : AObj} (hdead : s.H[id]? = some .dead) (hμ : e.μ id = none) (hbl : b < e.w.heap.size) (hb0 : c.e0.w.heap.size ≤ b) (hno : ∀ j, j < s.H.length → e.μ j ≠ some b)
    (htab : ∀ b0, Tabs.blk b0 → b0 ≠ b) (hT : tokOf (some ob) = none) (hob : ∀ e' : Env, e' = { H := e.H.set id ob, μ := fun j => if j = id then some b else e.μ j, G := e.G, w := e.w } → e.Le e' → ObjSim e' id ob) :
    e.Le { H := e.H.set id ob, μ := fun j => if j = id then some b else e.μ j, G := e.G, w := e.w } ∧ Sim c { s with H := s.H.set id ob } { H := e.H.set id ob, μ := fun j => if j = id then some b else e.μ j, G := e.G, w := e.w } a := by
  have hd : e.H[id]? = some .dead := by rw [hs.H]; exact hdead
  have hl : e.H.length = s.H.length := by rw [hs.H]
  have hidl := lt_of_get? hd
  obtain ⟨e', he'⟩ : ∃ e' : Env, e' = { H := e.H.set id ob, μ := fun j => if j = id then some b else e.μ j, G := e.G, w := e.w } := ⟨_, rfl⟩
  rw [← he']
  have hT' : ∀ i, e'.T i = e.T i := fun i => by
    rw [he']; unfold Env.T; simp only
    by_cases h : id = i
    · subst h; rw [List.getElem?_set_self hidl, hd, hT]; rfl
    · rw [List.getElem?_set_ne h]
  have hTd : e.T id = none := by unfold Env.T; rw [hd]; rfl
  have le : e.Le e' := by
    refine ⟨by rw [he']; simp, fun i _ ht => ⟨by rw [hT']; exact ht, fun b' hb' => ?_⟩, fun b' off h => by rw [he']; exact ⟨h, rfl⟩, fun i n ht => ⟨n, by rw [hT']; exact ht, Nat.le_refl _, fun _ => ?_⟩⟩
    · have : i ≠ id := fun h => by subst h; rw [hμ] at hb'; cases hb'
      rw [he']; simpa [this] using hb'
    · have : i ≠ id := fun h => by subst h; rw [hTd] at ht; cases ht
      rw [he']; exact ⟨by simp [this], fun b' cs t _ hh => ⟨rfl, cs, hh, rfl⟩⟩
  refine ⟨le, hs.size, fun t => Rep.mono le _ (hs.slots t), hs.defers.mono le, by rw [he', hs.H], ⟨by rw [he']; exact hs.ok.fresh, fun i o ho => ?_, fun i j b' hi hj h1 h2 => ?_, fun i b' hi h1 => ?_, ?_⟩, ⟨by rw [he']; exact hs.fr.size, by rw [he']; exact hs.fr.still, by rw [he']; exact hs.fr.heap, fun i b' hi h1 => ?_, hs.fr.le.trans le⟩⟩
  · by_cases h : id = i
    · subst h
      have : o = ob := by rw [he'] at ho; simp only [List.getElem?_set_self hidl, Option.some.injEq] at ho; exact ho.symm
      subst this
      exact hob e' he' le
    · have ho' : e.H[i]? = some o := by rw [he'] at ho; simpa only [List.getElem?_set_ne h] using ho
      exact ObjSim.mono le (hs.ok.objs i o ho') (by rw [he']; simp [Ne.symm h]) fun b' _ => by rw [he']; exact ⟨rfl, rfl⟩
  · rw [he'] at hi hj h1 h2
    simp only [List.length_set] at hi hj h1 h2
    by_cases e1 : i = id <;> by_cases e2 : j = id
    · omega
    · rw [if_pos e1] at h1; rw [if_neg e2] at h2
      cases h1; exact absurd h2 (hno j (by omega))
    · rw [if_neg e1] at h1; rw [if_pos e2] at h2
      cases h2; exact absurd h1 (hno i (by omega))
    · rw [if_neg e1] at h1; rw [if_neg e2] at h2
      exact hs.ok.inj i j b' (by omega) (by omega) h1 h2
  · rw [he'] at hi h1 ⊢
    simp only [List.length_set] at hi h1 ⊢
    by_cases e1 : i = id
    · rw [if_pos e1] at h1; cases h1; exact hbl
    · rw [if_neg e1] at h1; exact hs.ok.live i b' (by omega) h1
  · refine ⟨by rw [he']; exact hs.ok.tabs.1, fun b0 hb0' => ⟨by rw [he']; exact (hs.ok.tabs.2 b0 hb0').1, fun i hi h1 => ?_⟩⟩
    rw [he'] at hi h1
    simp only [List.length_set] at hi h1
    by_cases e1 : i = id
    · rw [if_pos e1] at h1; exact htab b0 hb0' (Option.some.inj h1).symm
    · rw [if_neg e1] at h1; exact (hs.ok.tabs.2 b0 hb0').2 i (by omega) h1
  · rw [he'] at hi h1
    simp only [List.length_set] at hi h1
    by_cases e1 : i = id
    · rw [if_pos e1] at h1; cases h1; exact .inl hb0
    · rw [if_neg e1] at h1; exact hs.fr.objs i b' (by omega) h1
theorem pureL_any : ∀ m, AV.pureL (List.replicate m .any) = true
  | 0 => rfl
  | m + 1 => by rw [List.replicate_succ, AV.pureL, AV.pureB, pureL_any m]; rfl
theorem fresh_call {Hc : List AObj} {ρ : Operand → AV} {d : Option Tmp} {t : TypeId} {p : String} {af : Array Edge} {x : Operand} {ys : Array Operand} {ats : Array TypeId} {f : FuncId} {first cap args L : List AV} {v v0 : AV} {H1 : List AObj} {k id : Nat}
    (hd : dOK c.nt d = true) (he : Ent c.P f) (hx : Less (ρ x) (.fn (.func f) first cap)) (ha : LessL (first ++ ys.toList.map ρ ++ cap) args) (hpu : AV.pureL args = true) (hLp : AV.pureL L = true) (hk : H1[k]? = some (.pre L))
    (hc : ACall c.P f args [] fun y H' => y = .ret v0 ∧ H' = H1)
    (hren : ∀ (e1 e' : Env) u, (∀ b, e1.μ k = some b → e'.μ id = some b) → id < e'.H.length → e'.T id = none → Rep e1 v0 u → Rep e' v u) :
    FreshOK c Q Hc ⟨d, .call ⟨.value x, ys, ats⟩, t, p, af, none⟩ ρ id (.pre L) v := by
  intro s e a hs _ hops hdead hμ K hK
  have hxr := hx e _ (hops x (by simp [Op.operands, Call.operands]))
  rw [Rep] at hxr
  obtain ⟨fv, cv, hfv, h1, h2⟩ := hxr
  have h3 : RepL e (ys.toList.map ρ) (ys.toList.map a.eval) := RepL.mapped fun y hy => hops y (by simp [Op.operands, Call.operands]; right; simpa using hy)
  refine ⟨about_FW _ _ _ _ _, ?_⟩
  show Oper.uponIn (FW c.r) 0 c.P _ a K (lift c Q) (((Oper.semAt c.r a.eval ⟨d, .call ⟨.value x, ys, ats⟩, t, p, af, none⟩)).run c.P e.w)
  rw [semAt_of (by intro c h; cases h), run_callop hfv he]
  refine ⟨fun h => by simp [FW] at h, ?_⟩
  have hargs : RepL e args (fv ++ ys.map a.eval ++ cv).toList := ha.rep (by simpa using (h1.append h3).append h2)
  have ok0 : EnvOK ⟨[], fun _ => none, e.G, e.w⟩ := ⟨hs.ok.fresh, fun i o h => by simp at h, fun i j b hi => by simp at hi, fun i b hi => by simp at hi, hs.ok.tabs.sub rfl fun i b hi => by simp at hi⟩
  have := hc ⟨[], fun _ => none, e.G, e.w⟩ (fv ++ ys.map a.eval ++ cv) ok0 rfl (RepL.pure (e := e) (e' := ⟨[], fun _ => none, e.G, e.w⟩) rfl rfl args hpu hargs)
  refine CallsIn.mono (F := FW c.r) (n := 0) this ?_
  rintro y w' ⟨ax, e1, rfl, ok1, fr, ⟨rfl, hH⟩, u, rfl, hu⟩
  have hext : Ext e ⟨e.H, e.μ, e1.G, e1.w⟩ := ⟨rfl, fun _ _ => rfl, fr.size, fr.still, fun b hb => (fr.heap b hb (fun i hi => by simp at hi)).1, fun b hb => (fr.heap b hb (fun i hi => by simp at hi)).2, ok1.fresh⟩
  have hs2 := hs.ext hext
  have hk' : e1.H[k]? = some (.pre L) := by rw [hH]; exact hk
  obtain ⟨b, cs, ct, m, q1, q2, q3, q4, q5⟩ := ok1.objs k _ hk'
  have hbl := lt_of_heap q3
  have hbn : e.w.heap.size ≤ b := by
    rcases fr.objs k b (lt_of_get? hk') q1 with h | ⟨j, hj, _⟩
    · exact h
    · simp at hj
  obtain ⟨le, hs3⟩ := sim_adopt hs2 (id := id) (b := b) (ob := .pre L) hdead hμ hbl (Nat.le_trans hs.fr.size hbn) (fun j hj h => by have := hs.ok.live j b (by rw [hs.H]; exact hj) h; omega)
    (fun b0 h0 h => by have := (hs.ok.tabs.2 b0 h0).1; omega) rfl fun e' he' le => ⟨b, cs, ct, m, by rw [he']; simp, by rw [he']; exact q2, by rw [he']; exact q3,
      RepL.pure (e := e1) (e' := e') (by rw [he']) (by rw [he']) _ (by rw [pureL_append, hLp, pureL_any]; rfl) q4, q5⟩
  have hidl : id < s.H.length := lt_of_get? hdead
  refine hK { H := e.H.set id (.pre L), μ := fun j => if j = id then some b else e.μ j, G := e1.G, w := e1.w } _ (hs3.put hd (hren e1 _ u (fun b' hb' => ?_) (by simp [hs.H]; exact hidl) ?_ hu)) fun j _ hne => by simp [hne]
  · rw [q1] at hb'; cases hb'; simp
  · unfold Env.T; simp only; rw [List.getElem?_set_self (by rw [hs.H]; exact hidl)]; rfl
end
abbrev planAC (p : Pl) (s : AV) : List AV := [I p.beg, I p.s0l, I p.s0h, I p.s1l, I p.s1h, I p.dl, I p.dh, s]
set_option maxRecDepth 10000 in
theorem rMore0_call {p : Pl} {n : Nat} {x : Int} (hn : n < p.scenes.length) (hl : p.scenes.length ≤ 1000000) (hx : -10000 ≤ x ∧ x ≤ 10000) (hm : 0 ≤ p.scenes[n].most ∧ p.scenes[n].most ≤ 10000) : ACall Tryz.prog 56 [plan p, I n, I x] [] (fun y H' => ∃ cap, (p.scenes.map sc).length ≤ cap ∧ y = .ret (.agg (planAC (moreP p n x) (.msl 2 0 (p.scenes.map sc).length cap))) ∧ H' = [.cells (planAC p (.msl 2 0 (p.scenes.map sc).length cap)), .cells (planAC p (.msl 2 0 (p.scenes.map sc).length cap)), .cells (((moreP p n x).scenes.map sc).flatten ++ List.replicate ((cap - (p.scenes.map sc).length) * 5) .any)]) := by
  refine acall_of (rs := [.cell 6 27]) Tryz.func56 rfl rfl (Nat.le_of_ble_eq_true rfl) fun e0 he0 => ?_
  refine aw_seq (aw_region ?_)
  refine sq_box rfl (lr _) rfl ?_
  refine sq_alloc rfl z27 ?_
  refine sq_nil (aw_seq (aw_region ?_))
  refine sq_ev rfl (ev_fieldAddr fo27_3 (lr _)) ?_
  refine sq_ev rfl (ev_load (lr _) rfl ty25 rfl) ?_
  refine sq_append_msl rfl sf25 Tryz.underlying25 (less_nilx _) (lr _) (by simp; omega) (by simp; omega) (by simp; omega) fun cap hcap => ?_
  refine sq_ev rfl (ev_fieldAddr fo27_3 (lr _)) ?_
  refine sq_store rfl (lr _) (lr _) rfl rfl ty25 rfl rfl ?_
  refine sq_nil (aw_seq ?_)
  have hfl := flat_len p.scenes
  have hat := most_at p.scenes n hn (List.replicate ((cap - (p.scenes.map sc).length) * 5) .any)
  have hsp := splice1 (p.scenes[n].most + x) p.scenes n hn (List.replicate ((cap - (p.scenes.map sc).length) * 5) .any) _ rfl
  have hble : Nat.ble (n * 5 + 2 + 1) ((p.scenes.map sc).flatten ++ List.replicate ((cap - (p.scenes.map sc).length) * 5) AV.any).length = true := Nat.ble_eq_true_of_le (by rw [List.length_append, hfl, List.length_replicate]; omega)
  have hrow : ((moreP p n x).scenes.map sc).flatten = ((p.scenes.set n { p.scenes[n] with most := p.scenes[n].most + x }).map sc).flatten := by unfold moreP; rw [scn_eq hn]
  refine aw_draw 13 mo (by kernel_rfl) ?_
  refine dr_ev rfl (ev_fieldAddr fo27_3 (lr _)) ?_
  refine dr_ev rfl (ev_load (lr _) rfl ty25 rfl) ?_
  refine dr_ev rfl (ev_mv (v := .raw _) (lr _)) ?_
  refine dr_ev rfl (ev_fieldAddr fo27_3 (lr _)) ?_
  refine dr_ev rfl (ev_load (lr _) rfl ty25 rfl) ?_
  refine dr_ev rfl (ev_mv (v := .raw _) (lr _)) ?_
  refine dr_ev rfl (ev_less (v' := .ptr 2 (n * 5)) (ev_index_msl sl25 (lr _) (lr _) rfl (by simp; omega)) (Less.eq (congrArg (AV.ptr 2) (Nat.zero_add (n * 5))))) ?_
  refine dr_ev rfl (ev_fieldAddr fo84_2 (lr _)) ?_
  refine dr_ev rfl (ev_load (lr _) rfl ty3 hat) ?_
  refine dr_ev rfl (ev_mv (v := .raw _) (lr _)) ?_
  refine dr_ev rfl (ev_add (lr _) (lr _) (wr (by omega) (by omega))) ?_
  refine dr_ev rfl (ev_less (v' := .ptr 2 (n * 5)) (ev_index_msl sl25 (lr _) (lr _) rfl (by simp; omega)) (Less.eq (congrArg (AV.ptr 2) (Nat.zero_add (n * 5))))) ?_
  refine dr_ev rfl (ev_fieldAddr fo84_2 (lr _)) ?_
  refine dr_end ?_
  refine sq_store rfl (lr _) (lr _) rfl rfl ty3 rfl hble ?_
  refine sq_nil (aw_seq (aw_region ?_))
  refine sq_ev rfl (ev_load_agg (lr _) rfl ty27 rfl) ?_
  refine sq_store rfl (lr _) (lr _) rfl rfl ty27 rfl rfl ?_
  refine sq_nil (aw_ret ?_)
  exact ⟨rfl, _, rfl, cap, hcap, rfl, by rw [hrow, ← hsp]; rfl⟩
set_option maxRecDepth 10000 in
theorem rMore4_call {p : Pl} {n : Nat} {x : Int} {o0 o1 o2 o3 : AObj} (hn : n < p.scenes.length) (hl : p.scenes.length ≤ 1000000) (hx : -10000 ≤ x ∧ x ≤ 10000) (hm : 0 ≤ p.scenes[n].most ∧ p.scenes[n].most ≤ 10000) : ACall Tryz.prog 56 [plan p, I n, I x] [o0, o1, o2, o3] (fun y H' => ∃ cap, (p.scenes.map sc).length ≤ cap ∧ y = .ret (.agg (planAC (moreP p n x) (.msl 6 0 (p.scenes.map sc).length cap))) ∧ H' = [o0, o1, o2, o3, .cells (planAC p (.msl 6 0 (p.scenes.map sc).length cap)), .cells (planAC p (.msl 6 0 (p.scenes.map sc).length cap)), .cells (((moreP p n x).scenes.map sc).flatten ++ List.replicate ((cap - (p.scenes.map sc).length) * 5) .any)]) := by
 refine acall_of (rs := [.cell 6 27]) Tryz.func56 rfl rfl (Nat.le_of_ble_eq_true rfl) fun e0 he0 => ?_
 refine aw_seq (aw_region ?_)
 refine sq_box rfl (lr _) rfl ?_
 refine sq_alloc rfl z27 ?_
 refine sq_nil (aw_seq (aw_region ?_))
 refine sq_ev rfl (ev_fieldAddr fo27_3 (lr _)) ?_
 refine sq_ev rfl (ev_load (lr _) rfl ty25 rfl) ?_
 refine sq_append_msl rfl sf25 Tryz.underlying25 (less_nilx _) (lr _) (by simp; omega) (by simp; omega) (by simp; omega) fun cap hcap => ?_
 refine sq_ev rfl (ev_fieldAddr fo27_3 (lr _)) ?_
 refine sq_store rfl (lr _) (lr _) rfl rfl ty25 rfl rfl ?_
 refine sq_nil (aw_seq ?_)
 have hfl := flat_len p.scenes
 have hat := most_at p.scenes n hn (List.replicate ((cap - (p.scenes.map sc).length) * 5) .any)
 have hsp := splice1 (p.scenes[n].most + x) p.scenes n hn (List.replicate ((cap - (p.scenes.map sc).length) * 5) .any) _ rfl
 have hble : Nat.ble (n * 5 + 2 + 1) ((p.scenes.map sc).flatten ++ List.replicate ((cap - (p.scenes.map sc).length) * 5) AV.any).length = true := Nat.ble_eq_true_of_le (by rw [List.length_append, hfl, List.length_replicate]; omega)
 have hrow : ((moreP p n x).scenes.map sc).flatten = ((p.scenes.set n { p.scenes[n] with most := p.scenes[n].most + x }).map sc).flatten := by unfold moreP; rw [scn_eq hn]
 refine aw_draw 13 mo (by kernel_rfl) ?_
 refine dr_ev rfl (ev_fieldAddr fo27_3 (lr _)) ?_
 refine dr_ev rfl (ev_load (lr _) rfl ty25 rfl) ?_
 refine dr_ev rfl (ev_mv (v := .raw _) (lr _)) ?_
 refine dr_ev rfl (ev_fieldAddr fo27_3 (lr _)) ?_
 refine dr_ev rfl (ev_load (lr _) rfl ty25 rfl) ?_
 refine dr_ev rfl (ev_mv (v := .raw _) (lr _)) ?_
 refine dr_ev rfl (ev_less (v' := .ptr 6 (n * 5)) (ev_index_msl sl25 (lr _) (lr _) rfl (by simp; omega)) (Less.eq (congrArg (AV.ptr 6) (Nat.zero_add (n * 5))))) ?_
 refine dr_ev rfl (ev_fieldAddr fo84_2 (lr _)) ?_
 refine dr_ev rfl (ev_load (lr _) rfl ty3 hat) ?_
 refine dr_ev rfl (ev_mv (v := .raw _) (lr _)) ?_
 refine dr_ev rfl (ev_add (lr _) (lr _) (wr (by omega) (by omega))) ?_
 refine dr_ev rfl (ev_less (v' := .ptr 6 (n * 5)) (ev_index_msl sl25 (lr _) (lr _) rfl (by simp; omega)) (Less.eq (congrArg (AV.ptr 6) (Nat.zero_add (n * 5))))) ?_
 refine dr_ev rfl (ev_fieldAddr fo84_2 (lr _)) ?_
 refine dr_end ?_
 refine sq_store rfl (lr _) (lr _) rfl rfl ty3 rfl hble ?_
 refine sq_nil (aw_seq (aw_region ?_))
 refine sq_ev rfl (ev_load_agg (lr _) rfl ty27 rfl) ?_
 refine sq_store rfl (lr _) (lr _) rfl rfl ty27 rfl rfl ?_
 refine sq_nil (aw_ret ?_)
 exact ⟨rfl, _, rfl, cap, hcap, rfl, by rw [hrow, ← hsp]; rfl⟩
theorem rMoreX_call {p : Pl} {n : Nat} {x : Int} (hn : n < p.scenes.length) (hl : p.scenes.length ≤ 1000000) (hx : -10000 ≤ x ∧ x ≤ 10000) (hm : 0 ≤ p.scenes[n].most ∧ p.scenes[n].most ≤ 10000) :
    ACall Tryz.prog 56 [plan p, I n, I x] [] fun y H' => y = .ret (.agg (planAC (moreP p n x) (.mslp 2 0 (p.scenes.map sc).length))) ∧ H' = [.dead, .dead, .pre ((moreP p n x).scenes.map sc).flatten] := by
  refine acall_wk (rMore0_call hn hl hx hm) fun y H1 ⟨cap, hcap, hy, hH⟩ => ⟨_, _, _, hy, less_agg (m := planAC (moreP p n x) (.mslp 2 0 (p.scenes.map sc).length)) ⟨lr _, lr _, lr _, lr _, lr _, lr _, lr _, less_mslp, trivial⟩, ?_, rfl, rfl⟩
  subst hH
  exact .cons (.dead _) (.cons (.dead _) (.cons (.pre _ _) .nil))
theorem repL_planAC {e1 e' : Env} {q : Pl} {a a' : AV} (h : ∀ v, Rep e1 a v → Rep e' a' v) {vs : List Value} (h2 : RepL e1 (planAC q a) vs) : RepL e' (planAC q a') vs := by
  have one : ∀ {n : Int} {v : Value}, Rep e1 (I n) v → Rep e' (I n) v := fun h => by rw [Rep] at h ⊢; exact h
  rw [RepL] at h2; obtain ⟨v0, r0, rfl, a0, h2⟩ := h2; refine RepL.cons (one a0) ?_
  rw [RepL] at h2; obtain ⟨v1, r1, rfl, a1, h2⟩ := h2; refine RepL.cons (one a1) ?_
  rw [RepL] at h2; obtain ⟨v2, r2, rfl, a2, h2⟩ := h2; refine RepL.cons (one a2) ?_
  rw [RepL] at h2; obtain ⟨v3, r3, rfl, a3, h2⟩ := h2; refine RepL.cons (one a3) ?_
  rw [RepL] at h2; obtain ⟨v4, r4, rfl, a4, h2⟩ := h2; refine RepL.cons (one a4) ?_
  rw [RepL] at h2; obtain ⟨v5, r5, rfl, a5, h2⟩ := h2; refine RepL.cons (one a5) ?_
  rw [RepL] at h2; obtain ⟨v6, r6, rfl, a6, h2⟩ := h2; refine RepL.cons (one a6) ?_
  rw [RepL] at h2; obtain ⟨v7, r7, rfl, a7, h2⟩ := h2; refine RepL.cons (h _ a7) ?_
  rw [RepL] at h2 ⊢; exact h2
theorem rep_planAC {e1 e' : Env} {q : Pl} {a a' : AV} (h : ∀ v, Rep e1 a v → Rep e' a' v) {u : Value} (h2 : Rep e1 (.agg (planAC q a)) u) : Rep e' (.agg (planAC q a')) u := by
  rw [Rep] at h2 ⊢
  obtain ⟨cs, h3, h4, h5⟩ := h2
  exact ⟨cs, h3, repL_planAC h h4, h5⟩
theorem ren_plan {q : Pl} {len k id : Nat} (e1 e' : Env) (u : Value) (hb : ∀ b, e1.μ k = some b → e'.μ id = some b) (hl : id < e'.H.length) (hT : e'.T id = none) (h : Rep e1 (.agg (planAC q (.mslp k 0 len))) u) : Rep e' (.agg (planAC q (.mslp id 0 len))) u :=
  rep_planAC (fun v hv => by
    rw [Rep] at hv ⊢
    obtain ⟨_, _, b, cap, h5, h6, h7⟩ := hv
    exact ⟨hl, hT, b, cap, hb b h5, h6, h7⟩) h
theorem pureL_row : ∀ L : List Sc, AV.pureL (L.map sc).flatten = true
  | [] => rfl
  | x :: L => by
    have ih := pureL_row L
    rw [List.map_cons, List.flatten_cons]
    simp only [List.cons_append, List.nil_append, AV.pureL, AV.pureB, Bool.true_and]; exact ih
theorem rnarrowR0_pure (p : Pl) (a b : Int) (ad : Option Addr) (len cap : Nat) : APure Tryz.prog 40 [.agg (planAC p (.raw (.slice ad len cap))), I 0, .agg [I a, I b]] (.agg (planAC (narP p 0 a b) (.raw (.slice ad len cap)))) := by
  refine apure_of (rs := [.cell 6 27]) Tryz.func40 rfl rfl (Nat.le_of_ble_eq_true rfl) (by simp [AV.pureL, AV.pureB, AV.pureE, pureE_map]) (rfl) fun e0 he0 => ?_
  refine aw_seq (aw_region ?_)
  refine sq_box rfl (lr _) rfl (sq_box rfl (lr _) rfl ?_)
  refine sq_alloc rfl z27 ?_
  refine sq_nil (aw_seq (aw_seq (aw_region ?_)))
  refine mvr (lr _) rfl (sq_ev rfl (ev_eql (lr _) (lr _)) ?_)
  refine sq_nil ?_
  refine aw_cond (lr _) (fun c1 => ?_) (fun c1 => ?_)
  · skip
    have c1' := c1
    try simp only [qq] at c1'
    cases c1
  · skip
    have c1' := c1
    try simp only [qq] at c1'
    refine aw_region ?_
    refine mvr (lr _) rfl (sq_ev rfl (ev_load_agg (lr _) rfl ty23 rfl) ?_)
    refine sq_ev rfl (ev_fieldAddr fo27_1 (lr _)) ?_
    refine sq_ev rfl (ev_index_box (k := 0) ar24 (lr _) (lr _) rfl (by decide)) ?_
    refine sq_store rfl (lr _) (lr _) rfl rfl ty23 rfl rfl ?_
    refine sq_nil (aw_seq (aw_region ?_))
    refine sq_ev rfl (ev_load_agg (lr _) rfl ty27 rfl) ?_
    refine sq_store rfl (lr _) (lr _) rfl rfl ty27 rfl rfl ?_
    refine sq_nil (aw_ret ?_)
    exact retQ_res (vs := [.agg _]) rfl rfl ⟨resVar_cell rfl rfl ty27 rfl, trivial⟩ (lr _)
theorem rnarrowR1_pure (p : Pl) (a b : Int) (ad : Option Addr) (len cap : Nat) : APure Tryz.prog 40 [.agg (planAC p (.raw (.slice ad len cap))), I 1, .agg [I a, I b]] (.agg (planAC (narP p 1 a b) (.raw (.slice ad len cap)))) := by
 refine apure_of (rs := [.cell 6 27]) Tryz.func40 rfl rfl (Nat.le_of_ble_eq_true rfl) (by simp [AV.pureL, AV.pureB, AV.pureE, pureE_map]) (rfl) fun e0 he0 => ?_
 refine aw_seq (aw_region ?_)
 refine sq_box rfl (lr _) rfl (sq_box rfl (lr _) rfl ?_)
 refine sq_alloc rfl z27 ?_
 refine sq_nil (aw_seq (aw_seq (aw_region ?_)))
 refine mvr (lr _) rfl (sq_ev rfl (ev_eql (lr _) (lr _)) ?_)
 refine sq_nil ?_
 refine aw_cond (lr _) (fun c1 => ?_) (fun c1 => ?_)
 ·
  have c1' := c1
  try simp only [qq] at c1'
  cases c1
 ·
  have c1' := c1
  try simp only [qq] at c1'
  refine aw_region ?_
  refine mvr (lr _) rfl (sq_ev rfl (ev_load_agg (lr _) rfl ty23 rfl) ?_)
  refine sq_ev rfl (ev_fieldAddr fo27_1 (lr _)) ?_
  refine sq_ev rfl (ev_index_box (k := 1) ar24 (lr _) (lr _) rfl (by decide)) ?_
  refine sq_store rfl (lr _) (lr _) rfl rfl ty23 rfl rfl ?_
  refine sq_nil (aw_seq (aw_region ?_))
  refine sq_ev rfl (ev_load_agg (lr _) rfl ty27 rfl) ?_
  refine sq_store rfl (lr _) (lr _) rfl rfl ty27 rfl rfl ?_
  refine sq_nil (aw_ret ?_)
  exact retQ_res (vs := [.agg _]) rfl rfl ⟨resVar_cell rfl rfl ty27 rfl, trivial⟩ (lr _)
theorem rnarrowR2_pure (p : Pl) (a b : Int) (ad : Option Addr) (len cap : Nat) : APure Tryz.prog 40 [.agg (planAC p (.raw (.slice ad len cap))), I 2, .agg [I a, I b]] (.agg (planAC (narP p 2 a b) (.raw (.slice ad len cap)))) := by
 refine apure_of (rs := [.cell 6 27]) Tryz.func40 rfl rfl (Nat.le_of_ble_eq_true rfl) (by simp [AV.pureL, AV.pureB, AV.pureE, pureE_map]) (rfl) fun e0 he0 => ?_
 refine aw_seq (aw_region ?_)
 refine sq_box rfl (lr _) rfl (sq_box rfl (lr _) rfl ?_)
 refine sq_alloc rfl z27 ?_
 refine sq_nil (aw_seq (aw_seq (aw_region ?_)))
 refine mvr (lr _) rfl (sq_ev rfl (ev_eql (lr _) (lr _)) ?_)
 refine sq_nil ?_
 refine aw_cond (lr _) (fun c1 => ?_) (fun c1 => ?_)
 ·
  have c1' := c1
  try simp only [qq] at c1'
  refine aw_region ?_
  refine sq_ev rfl (ev_load_agg (lr _) rfl ty23 rfl) ?_
  refine sq_ev rfl (ev_fieldAddr fo27_2 (lr _)) ?_
  refine sq_store rfl (lr _) (lr _) rfl rfl ty23 rfl rfl ?_
  refine sq_nil (aw_seq (aw_region ?_))
  refine sq_ev rfl (ev_load_agg (lr _) rfl ty27 rfl) ?_
  refine sq_store rfl (lr _) (lr _) rfl rfl ty27 rfl rfl ?_
  refine sq_nil (aw_ret ?_)
  exact retQ_res (vs := [.agg _]) rfl rfl ⟨resVar_cell rfl rfl ty27 rfl, trivial⟩ (lr _)
 ·
  have c1' := c1
  try simp only [qq] at c1'
  cases c1
section
variable {r : Option Nat} {H : List AObj} {ρ : Operand → AV} {d : Option Tmp} {t : TypeId} {p : String} {af : Array Edge} {g : Option (Nat × Bool)}
theorem ev_narrow {x : Operand} {ys : Array Operand} {ats : Array TypeId} {first cap : List AV} {q : Pl} {k j len : Nat} {a b : Int} (hk : k < 3) (hx : Less (ρ x) (.fn (.func 40) first cap))
    (ha : LessL (first ++ ys.toList.map ρ ++ cap) [.agg (planAC q (.mslp j 0 len)), I k, .agg [I a, I b]]) : Ev Tryz.prog r ⟨d, .call ⟨.value x, ys, ats⟩, t, p, af, g⟩ H ρ (.agg (planAC (narP q k a b) (.mslp j 0 len))) := by
  intro e ac next Q' ok hH hs hn
  have hxr := hx e _ (hs x (by simp [Op.operands, Call.operands]))
  rw [Rep] at hxr
  obtain ⟨fv, cv, hfv, h1, h2⟩ := hxr
  have h3 : RepL e (ys.toList.map ρ) (ys.toList.map ac.eval) := RepL.mapped fun y hy => hs y (by simp [Op.operands, Call.operands]; right; simpa using hy)
  have hargs : RepL e [.agg (planAC q (.mslp j 0 len)), I k, .agg [I a, I b]] (fv ++ ys.map ac.eval ++ cv).toList := ha.rep (by simpa using (h1.append h3).append h2)
  generalize hvs : fv ++ ys.map ac.eval ++ cv = vs at hargs
  rw [RepL] at hargs
  obtain ⟨u, rest, hu, hp, hrest⟩ := hargs
  obtain ⟨bb, cc, hlj, hTj, hbb, hle, hp2⟩ : ∃ bb cc, j < e.H.length ∧ e.T j = none ∧ e.μ j = some bb ∧ len ≤ cc ∧ Rep e (.agg (planAC q (.raw (.slice (some ⟨bb, 0, none⟩) len cc)))) u := by
    have hp' := hp
    rw [Rep] at hp'
    obtain ⟨cs, h4, h5, h6⟩ := hp'
    obtain ⟨v, hv, hr⟩ := h5.get 7 _ rfl
    rw [Rep] at hr
    obtain ⟨g1, g2, bb, cc, g3, g4, g5⟩ := hr
    refine ⟨bb, cc, g1, g2, g3, g5, ?_⟩
    rw [Rep]
    refine ⟨cs, h4, ?_, h6⟩
    have h7 := RepL.set (n := 7) (a := .raw (.slice (some ⟨bb, 0, none⟩) len cc)) (v := .slice (some ⟨bb, 0, none⟩) len cc) h5 (by rw [Rep])
    have h8 : cs.toList.set 7 (.slice (some ⟨bb, 0, none⟩) len cc) = cs.toList := by
      obtain ⟨q1, q2⟩ := List.getElem?_eq_some_iff.1 hv
      rw [← g4, ← q2]; exact List.set_getElem_self q1
    rw [h8] at h7; exact h7
  have hc : APure Tryz.prog 40 [.agg (planAC q (.raw (.slice (some ⟨bb, 0, none⟩) len cc))), I k, .agg [I a, I b]] (.agg (planAC (narP q k a b) (.raw (.slice (some ⟨bb, 0, none⟩) len cc)))) := by
    rcases k with _ | _ | _ | k
    · exact rnarrowR0_pure q a b _ len cc
    · exact rnarrowR1_pure q a b _ len cc
    · exact rnarrowR2_pure q a b _ len cc
    · omega
  refine ⟨about_FW _ _ _ _ _, ?_⟩
  show Oper.uponIn (FW r) 0 Tryz.prog _ ac next Q' (((Oper.semAt r ac.eval ⟨d, .call ⟨.value x, ys, ats⟩, t, p, af, g⟩)).run Tryz.prog e.w)
  rw [semAt_of (by intro c h; cases h), run_callop hfv en40, hvs]
  refine ⟨fun h => by simp [FW] at h, ?_⟩
  have := hc e vs ok (by rw [RepL]; exact ⟨u, rest, hu, hp2, hrest⟩)
  refine CallsIn.mono (F := FW r) (n := 0) this ?_
  rintro y w' ⟨u', e', rfl, rfl, hext, hu'⟩
  refine hn u' e' hext (rep_planAC (a := .raw (.slice (some ⟨bb, 0, none⟩) len cc)) (a' := .mslp j 0 len) (fun v hv => ?_) hu')
  have hv : Rep e' (.raw (.slice (some ⟨bb, 0, none⟩) len cc)) v := hv
  show Rep e' (.mslp j 0 len) v
  rw [Rep] at hv
  have hle' := hext.le ok
  rw [Rep]
  exact ⟨Nat.lt_of_lt_of_le hlj hle'.len, (hle'.obj j hlj hTj).1, bb, cc, (hle'.obj j hlj hTj).2 _ hbb, hv, hle⟩
end
end Go.Proofs.YtjghdbdiejaacaaGreatDoor
namespace Go.Proofs.YtjghdbdiejaacaaGreatDoor
open Go Go.Ab Ni
def lessS (s : Sc) (x : Int) : Sc := { s with least := s.least - x }
def lessP (p : Pl) (n : Nat) (x : Int) : Pl := { p with scenes := p.scenes.set n (lessS (scn p n) x) }
def looseS (s : Sc) : Sc := { s with loose := true }
def looseP (p : Pl) (n : Nat) : Pl := { p with scenes := p.scenes.set n (looseS (scn p n)) }
theorem set_scn {p : Pl} {n : Nat} (hn : n < p.scenes.length) (y : Sc) (j : Nat) : scn { p with scenes := p.scenes.set n y } j = if j = n then y else scn p j := by
  unfold scn
  simp only [List.getD_eq_getElem?_getD, List.getElem?_set]
  by_cases e : j = n
  · subst e; simp [hn]
  · rw [if_neg (fun h => e h.symm), if_neg e]
theorem lessP_scn {p : Pl} {n : Nat} (hn : n < p.scenes.length) (x : Int) (j : Nat) : scn (lessP p n x) j = if j = n then lessS (scn p n) x else scn p j := set_scn hn _ j
theorem looseP_scn {p : Pl} {n : Nat} (hn : n < p.scenes.length) (j : Nat) : scn (looseP p n) j = if j = n then looseS (scn p n) else scn p j := set_scn hn _ j
theorem ch_mono {p q : Pl} (hl : q.scenes.length = p.scenes.length) (h : ∀ j, (scn q j).wants = (scn p j).wants ∧ ((scn p j).loose = true → (scn q j).loose = true)) {l : List Int} (k : isCh p l = true) : isCh q l = true := by
  unfold isCh at k ⊢
  rw [okAll_iff] at k ⊢
  intro i hi
  have hi' : i < p.scenes.length := by omega
  have hb := k i hi'
  obtain ⟨e1, e2⟩ := h i
  rw [scn_eq hi, scn_eq hi'] at e1 e2
  unfold chBad at hb ⊢
  rw [e1]
  rw [Bool.or_eq_false_iff] at hb ⊢
  refine ⟨?_, hb.2⟩
  have h1 := hb.1
  rw [Bool.and_eq_false_iff] at h1 ⊢
  rcases h1 with h1 | h1
  · exact Or.inl h1
  · right; simp only [Bool.not_eq_false'] at h1 ⊢; exact e2 h1
theorem ris_mono {p q : Pl} (hl : q.scenes.length = p.scenes.length) (l : List Int) : Ris q l = Ris p l := by
  unfold Ris
  have : risBad q l = risBad p l := by
    funext i hi
    unfold risBad isSc; rw [hl]
  rw [this]
theorem fit_wide {p q : Pl} {l : List Nat} (hb : q.beg = p.beg) (hp : ∀ j, (scn q j).part = (scn p j).part) (h1 : ∀ j, (scn q j).least ≤ (scn p j).least) (h2 : ∀ j, (scn p j).most ≤ (scn q j).most)
    (w0 : q.s0l ≤ p.s0l ∧ p.s0h ≤ q.s0h) (w1 : q.s1l ≤ p.s1l ∧ p.s1h ≤ q.s1h) (w2 : q.dl ≤ p.dl ∧ p.dh ≤ q.dh) {h : Hr} (f : FitH p l h) : FitH q l h := by
  have ho : ∀ k : Int, ofP q l k = ofP p l k := fun k => by
    unfold ofP
    refine List.filter_congr fun j _ => ?_
    unfold inPart; rw [hp]
  have hpl : ∀ k : Nat, pl q l k ≤ pl p l k := fun k => by
    unfold pl lsum leasts; rw [ho]; exact sum_le fun j _ => h1 j
  have hph : ∀ k : Nat, ph p l k ≤ ph q l k := fun k => by
    unfold ph hsum mosts; rw [ho]; exact sum_le fun j _ => h2 j
  obtain ⟨a, b, c⟩ := h
  obtain ⟨f1, f2, f3, f4, f5, f6, f7, f8, f9, f10, f11, f12⟩ := f
  have l0 := hpl 0; have l1 := hpl 1; have l2 := hpl 2
  have m0 := hph 0; have m1 := hph 1; have m2 := hph 2
  refine ⟨Int.le_trans w0.1 f1, Int.le_trans f2 w0.2, Int.le_trans w1.1 f3, Int.le_trans f4 w1.2, Int.le_trans w2.1 f5, Int.le_trans f6 w2.2, ?_, ?_, Int.le_trans l1 f9, Int.le_trans f10 m1, Int.le_trans l2 f11, Int.le_trans f12 m2⟩
  · show pl q l 0 ≤ a - q.beg; rw [hb]; exact Int.le_trans l0 f7
  · show a - q.beg ≤ ph q l 0; rw [hb]; exact Int.le_trans f8 m0
def wideP (p : Pl) (n : Nat) (x y : Int) (k : Nat) (a b : Int) : Pl := lessP (narP (moreP p n x) k (wl p k - a) (wh p k + b)) n y
theorem nar_scn (p : Pl) (k : Nat) (a b : Int) (j : Nat) : scn (narP p k a b) j = scn p j := by unfold narP; split <;> (try split) <;> rfl
theorem nar_len' (p : Pl) (k : Nat) (a b : Int) : (narP p k a b).scenes.length = p.scenes.length := by unfold narP; split <;> (try split) <;> rfl
theorem lessP_len (p : Pl) (n : Nat) (x : Int) : (lessP p n x).scenes.length = p.scenes.length := by simp [lessP]
theorem looseP_len (p : Pl) (n : Nat) : (looseP p n).scenes.length = p.scenes.length := by simp [looseP]
theorem wideP_len (p : Pl) (n : Nat) (x y : Int) (k : Nat) (a b : Int) : (wideP p n x y k a b).scenes.length = p.scenes.length := by unfold wideP; rw [lessP_len, nar_len', moreP_len]
theorem wideP_scn {p : Pl} {n : Nat} (hn : n < p.scenes.length) (x y : Int) (k : Nat) (a b : Int) (j : Nat) : scn (wideP p n x y k a b) j = if j = n then { scn p n with most := (scn p n).most + x, least := (scn p n).least - y } else scn p j := by
  unfold wideP
  rw [lessP_scn (by rw [nar_len', moreP_len]; exact hn), nar_scn, nar_scn, moreP_scn hn, moreP_scn hn]
  split
  · rw [if_pos rfl]; rfl
  · rfl
/-- **With wider bounds a choice that can be played still can.** -/
theorem wide_can {p : Pl} (ok : PlOK p = true) {n : Nat} (hn : n < p.scenes.length) {x y : Int} (hx : 0 ≤ x) (hy : 0 ≤ y) {k : Nat} (hk : k < 3) {a b : Int} (ha : 0 ≤ a) (hb : 0 ≤ b) (okq : PlOK (wideP p n x y k a b) = true)
    {l : List Nat} (cv : CV p l) (hc : can p l = true) : CV (wideP p n x y k a b) l ∧ can (wideP p n x y k a b) l = true := by
  obtain ⟨gp, wp⟩ := gp_of_ok ok
  obtain ⟨gq, wq⟩ := gp_of_ok okq
  have cq : CV (wideP p n x y k a b) l := ⟨cv.len, fun j hj => by rw [wideP_len]; exact cv.rng j hj⟩
  obtain ⟨h, h2, h3, f⟩ := (can_fit wp cv).1 hc
  refine ⟨cq, (can_fit wq cq).2 ⟨_, _, _, fit_wide (p := p) (h := (h, h2, h3)) ?_ ?_ ?_ ?_ ?_ ?_ ?_ f⟩⟩
  · unfold wideP lessP narP moreP; split <;> (try split) <;> rfl
  · intro j; rw [wideP_scn hn]; split
    · rename_i e; subst e; rfl
    · rfl
  · intro j; rw [wideP_scn hn]; split
    · rename_i e; subst e; simp only; omega
    · exact Int.le_refl _
  · intro j; rw [wideP_scn hn]; split
    · rename_i e; subst e; simp only; omega
    · exact Int.le_refl _
  all_goals (rcases k with _ | _ | _ | k <;> simp only [wideP, lessP, narP, moreP, wl, wh] <;> simp <;> omega)
theorem wide_ch {p : Pl} {n : Nat} (hn : n < p.scenes.length) (x y : Int) (k : Nat) (a b : Int) {l : List Int} (hc : (Ris p l && isCh p l) = true) : (Ris (wideP p n x y k a b) l && isCh (wideP p n x y k a b) l) = true := by
  rw [Bool.and_eq_true] at hc ⊢
  refine ⟨by rw [ris_mono (wideP_len p n x y k a b)]; exact hc.1, ch_mono (wideP_len p n x y k a b) (fun j => ?_) hc.2⟩
  rw [wideP_scn hn]; split
  · rename_i e; subst e; exact ⟨rfl, fun h => h⟩
  · exact ⟨rfl, fun h => h⟩
theorem more_zero {p : Pl} {n : Nat} (hn : n < p.scenes.length) : moreP p n 0 = p := by
  unfold moreP
  have : ({ scn p n with most := (scn p n).most + 0 } : Sc) = p.scenes[n] := by rw [scn_eq hn, Int.add_zero]
  rw [this, List.set_getElem_self]
/-- **A scene that becomes loose takes no choice away.** -/
theorem loose_all {p : Pl} (ok : PlOK p = true) {n : Nat} (hn : n < p.scenes.length) (okq : PlOK (looseP p n) = true) {l : List Nat} (hl : l ∈ choicesC p) : l ∈ choicesC (looseP p n) := by
  obtain ⟨gp, wp⟩ := gp_of_ok ok
  obtain ⟨gq, wq⟩ := gp_of_ok okq
  obtain ⟨h1, h2⟩ := List.mem_filter.1 hl
  have cv := allC_mem gp l h1
  obtain ⟨g1, g2, g3⟩ := allC_iff.1 h1
  have hs : ∀ j, (scn (looseP p n) j).part = (scn p j).part ∧ (scn (looseP p n) j).least = (scn p j).least ∧ (scn (looseP p n) j).most = (scn p j).most ∧ (scn (looseP p n) j).wants = (scn p j).wants ∧ ((scn p j).loose = true → (scn (looseP p n) j).loose = true) := fun j => by
    rw [looseP_scn hn]; split
    · rename_i e; subst e; exact ⟨rfl, rfl, rfl, rfl, fun _ => rfl⟩
    · exact ⟨rfl, rfl, rfl, rfl, fun h => h⟩
  have hq : l ∈ allC (looseP p n) := mem_allC g1 (fun x hx => by rw [looseP_len]; exact g2 x hx) (ch_mono (looseP_len p n) (fun j => ⟨(hs j).2.2.2.1, (hs j).2.2.2.2⟩) g3)
  obtain ⟨a, b, c, f⟩ := (can_fit wp cv).1 h2
  have key : FitH (looseP p n) l (a, b, c) := fit_wide (p := p) (q := looseP p n) rfl (fun j => (hs j).1) (fun j => by rw [(hs j).2.1]; exact Int.le_refl _) (fun j => by rw [(hs j).2.2.1]; exact Int.le_refl _)
    ⟨Int.le_refl p.s0l, Int.le_refl p.s0h⟩ ⟨Int.le_refl p.s1l, Int.le_refl p.s1h⟩ ⟨Int.le_refl p.dl, Int.le_refl p.dh⟩ f
  exact List.mem_filter.2 ⟨hq, (can_fit wq (allC_mem gq l hq)).2 ⟨a, b, c, key⟩⟩
theorem row_at (f : Nat) (hf : f < 5) : ∀ (L : List Sc) (k : Nat) (h : k < L.length) (R : List AV), ((L.map sc).flatten ++ R)[k * 5 + f]? = (sc L[k])[f]?
  | x :: L, 0, h, R => by
    rcases f with _ | _ | _ | _ | _ | f
    · simp
    · simp
    · simp
    · simp
    · simp
    · omega
  | x :: L, k + 1, h, R => by
    have ih := row_at f hf L k (by simpa using h) R
    have e2 : (k + 1) * 5 + f = k * 5 + f + 1 + 1 + 1 + 1 + 1 := by omega
    rw [e2]
    simp only [List.map_cons, List.flatten_cons, List.cons_append, List.nil_append, List.getElem?_cons_succ, List.getElem_cons_succ]
    exact ih
theorem row_set (f : Nat) (hf : f < 5) (v : AV) : ∀ (L : List Sc) (k : Nat) (h : k < L.length) (R : List AV) (l : List AV), l = (L.map sc).flatten ++ R →
    l.take (k * 5 + f) ++ [v] ++ l.drop (k * 5 + f + 1) = ((L.map sc).set k ((sc L[k]).set f v)).flatten ++ R
  | x :: L, 0, h, R, l, hl => by
    subst hl
    rcases f with _ | _ | _ | _ | _ | f
    · simp
    · simp
    · simp
    · simp
    · simp
    · omega
  | x :: L, k + 1, h, R, l, hl => by
    have ih := row_set f hf v L k (by simpa using h) R _ rfl
    subst hl
    have e2 : (k + 1) * 5 + f = k * 5 + f + 1 + 1 + 1 + 1 + 1 := by omega
    rw [e2]
    simp only [List.map_cons, List.flatten_cons, List.cons_append, List.nil_append, List.take_succ_cons, List.drop_succ_cons, List.set_cons_succ, List.getElem_cons_succ]
    rw [← ih]
theorem wide_row {p : Pl} {n : Nat} (hn : n < p.scenes.length) (x y : Int) (k : Nat) (a b : Int) (R : List AV) :
    (((moreP p n x).scenes.map sc).flatten ++ R).take (n * 5 + 1) ++ [I ((scn p n).least - y)] ++ (((moreP p n x).scenes.map sc).flatten ++ R).drop (n * 5 + 1 + 1) = ((wideP p n x y k a b).scenes.map sc).flatten ++ R := by
  have hm : n < (moreP p n x).scenes.length := by rw [moreP_len]; exact hn
  rw [row_set 1 (by omega) _ _ n hm R _ rfl]
  have e : (wideP p n x y k a b).scenes = (moreP p n x).scenes.set n (lessS (moreP p n x).scenes[n] y) := by
    have h1 : (narP (moreP p n x) k (wl p k - a) (wh p k + b)).scenes = (moreP p n x).scenes := by unfold narP; split <;> (try split) <;> rfl
    unfold wideP lessP
    rw [h1, nar_scn, scn_eq hm]
  have e2 : (moreP p n x).scenes[n] = { scn p n with most := (scn p n).most + x } := by
    have := moreP_scn hn x n
    rw [if_pos rfl, scn_eq hm] at this; exact this
  rw [e, List.map_set, e2]; rfl
theorem loose_row {p : Pl} {n : Nat} (hn : n < p.scenes.length) (R : List AV) :
    ((p.scenes.map sc).flatten ++ R).take (n * 5 + 3) ++ [B true] ++ ((p.scenes.map sc).flatten ++ R).drop (n * 5 + 3 + 1) = ((looseP p n).scenes.map sc).flatten ++ R := by
  rw [row_set 3 (by omega) _ _ n hn R _ rfl]
  have e : (looseP p n).scenes = p.scenes.set n (looseS p.scenes[n]) := by unfold looseP; rw [scn_eq hn]
  rw [e, List.map_set]; rfl
theorem row_least {p : Pl} {n : Nat} (hn : n < p.scenes.length) (x : Int) (R : List AV) : (((moreP p n x).scenes.map sc).flatten ++ R)[n * 5 + 1]? = some (I (scn p n).least) := by
  have hm : n < (moreP p n x).scenes.length := by rw [moreP_len]; exact hn
  have e2 : (moreP p n x).scenes[n] = { scn p n with most := (scn p n).most + x } := by
    have := moreP_scn hn x n
    rw [if_pos rfl, scn_eq hm] at this; exact this
  rw [row_at 1 (by omega) _ n hm R, e2]; rfl
theorem law11_long (p : Pl) (l : List Int) (n m y k a b : Int) (hs : ¬ p.scenes.length ≤ 12) : APure Tryz.prog 11 [plan p, ints l, I n, I m, I y, I k, I a, I b] (B true) := by
  refine apure_of (rs := [.tmp 16]) Tryz.func11 rfl rfl (Nat.le_of_ble_eq_true rfl) (by simp [AV.pureL, AV.pureB, AV.pureE, pureE_map]) (rfl) fun e0 he0 => ?_
  refine aw_seq (aw_region ?_)
  refine sq_box rfl (lr _) rfl (asr (lr _) rfl (sq_nil (aw_seq (aw_seq (aw_region ?_)))))
  refine sq_ev rfl (ev_load_agg (lr _) rfl ty27 rfl) ?_
  refine sq_ev rfl (ev_call en20 (lr _) (short_no hs) ⟨lr _, trivial⟩) ?_
  refine sq_ev rfl (ev_not (lr _)) ?_
  refine mvr (lr _) rfl (sq_no rfl rfl (lr _) rfl rfl (sq_no rfl rfl (lr _) rfl rfl (sq_no rfl rfl (lr _) rfl rfl (sq_ev rfl (ev_pickT (v := .raw _) (lr _) (lr _)) ?_))))
  refine mvr (lr _) rfl (sq_no rfl rfl (lr _) rfl rfl (sq_no rfl rfl (lr _) rfl rfl (sq_no rfl rfl (lr _) rfl rfl (sq_ev rfl (ev_pickT (v := .raw _) (lr _) (lr _)) ?_))))
  refine mvr (lr _) rfl (sq_no rfl rfl (lr _) rfl rfl (sq_no rfl rfl (lr _) rfl rfl (sq_no rfl rfl (lr _) rfl rfl (sq_no rfl rfl (lr _) rfl rfl (sq_ev rfl (ev_pickT (v := .raw _) (lr _) (lr _)) ?_)))))
  refine mvr (lr _) rfl (sq_no rfl rfl (lr _) rfl rfl (sq_no rfl rfl (lr _) rfl rfl (sq_no rfl rfl (lr _) rfl rfl (sq_no rfl rfl (lr _) rfl rfl (sq_ev rfl (ev_pickT (v := .raw _) (lr _) (lr _)) ?_)))))
  refine mvr (lr _) rfl (sq_no rfl rfl (lr _) rfl rfl (sq_no rfl rfl (lr _) rfl rfl (sq_ev rfl (ev_pickT (v := .raw _) (lr _) (lr _)) ?_)))
  refine mvr (lr _) rfl (sq_no rfl rfl (lr _) rfl rfl (sq_no rfl rfl (lr _) rfl rfl (sq_ev rfl (ev_pickT (v := .raw _) (lr _) (lr _)) ?_)))
  refine mvr (lr _) rfl (sq_no rfl rfl (lr _) rfl rfl (sq_no rfl rfl (lr _) rfl rfl (sq_ev rfl (ev_pickT (v := .raw _) (lr _) (lr _)) ?_)))
  refine mvr (lr _) rfl (sq_no rfl rfl (lr _) rfl rfl (sq_no rfl rfl (lr _) rfl rfl (sq_ev rfl (ev_pickT (v := .raw _) (lr _) (lr _)) ?_)))
  refine mvr (lr _) rfl (sq_no rfl rfl (lr _) rfl rfl (sq_no rfl rfl (lr _) rfl rfl (sq_ev rfl (ev_pickT (v := .raw _) (lr _) (lr _)) ?_)))
  refine mvr (lr _) rfl (sq_no rfl rfl (lr _) rfl rfl (sq_no rfl rfl (lr _) rfl rfl (sq_ev rfl (ev_pickT (v := .raw _) (lr _) (lr _)) ?_)))
  refine mvr (lr _) rfl (sq_no rfl rfl (lr _) rfl rfl (sq_no rfl rfl (lr _) rfl rfl (sq_ev rfl (ev_pickT (v := .raw _) (lr _) (lr _)) ?_)))
  refine mvr (lr _) rfl (sq_no rfl rfl (lr _) rfl rfl (sq_no rfl rfl (lr _) rfl rfl (sq_ev rfl (ev_pickT (v := .raw _) (lr _) (lr _)) ?_)))
  refine mvr (lr _) rfl (sq_no rfl rfl (lr _) rfl rfl (sq_no rfl rfl (lr _) rfl rfl (sq_ev rfl (ev_pickT (v := .raw _) (lr _) (lr _)) ?_)))
  refine mvr (lr _) rfl (sq_no rfl rfl (lr _) rfl rfl (sq_no rfl rfl (lr _) rfl rfl (sq_ev rfl (ev_pickT (v := .raw _) (lr _) (lr _)) ?_)))
  refine sq_nil ?_
  refine aw_true (lr _) ?_
  refine aw_seq (aw_region ?_)
  refine sq_ev rfl (ev_call en21 (lr _) (known_pure) trivial) ?_
  refine asr (lr _) rfl (sq_nil (aw_ret ?_))
  exact retQ_pure (v := .raw _) rfl rfl (lr _)
theorem law11_slim (p : Pl) (l : List Int) (n m y k a b : Int) (hs : p.scenes.length ≤ 12) (hl : ¬ l.length ≤ 12) : APure Tryz.prog 11 [plan p, ints l, I n, I m, I y, I k, I a, I b] (B true) := by
 refine apure_of (rs := [.tmp 16]) Tryz.func11 rfl rfl (Nat.le_of_ble_eq_true rfl) (by simp [AV.pureL, AV.pureB, AV.pureE, pureE_map]) (rfl) fun e0 he0 => ?_
 refine aw_seq (aw_region ?_)
 refine sq_box rfl (lr _) rfl (asr (lr _) rfl (sq_nil (aw_seq (aw_seq (aw_region ?_)))))
 refine sq_ev rfl (ev_load_agg (lr _) rfl ty27 rfl) ?_
 refine sq_ev rfl (ev_call en20 (lr _) (short_yes hs) ⟨lr _, trivial⟩) ?_
 refine sq_ev rfl (ev_not (lr _)) ?_
 refine mvr (lr _) rfl ?_
 refine ysl rfl rfl (lr _) rfl (lr _) ?_
 refine sq_yes rfl rfl (lr _) rfl (ev_call en45 (lr _) (slim_no hl) ⟨lr _, trivial⟩) ?_
 refine sq_yes rfl rfl (lr _) rfl (ev_not (lr _)) ?_
 refine pf rfl (lr _) (lr _) (mvr (lr _) rfl (sq_no rfl rfl (lr _) rfl rfl (sq_no rfl rfl (lr _) rfl rfl (sq_no rfl rfl (lr _) rfl rfl (sq_ev rfl (ev_pickT (v := .raw _) (lr _) (lr _)) ?_)))))
 refine mvr (lr _) rfl (sq_no rfl rfl (lr _) rfl rfl (sq_no rfl rfl (lr _) rfl rfl (sq_no rfl rfl (lr _) rfl rfl (sq_no rfl rfl (lr _) rfl rfl (sq_ev rfl (ev_pickT (v := .raw _) (lr _) (lr _)) ?_)))))
 refine mvr (lr _) rfl (sq_no rfl rfl (lr _) rfl rfl (sq_no rfl rfl (lr _) rfl rfl (sq_no rfl rfl (lr _) rfl rfl (sq_no rfl rfl (lr _) rfl rfl (sq_ev rfl (ev_pickT (v := .raw _) (lr _) (lr _)) ?_)))))
 refine mvr (lr _) rfl (sq_no rfl rfl (lr _) rfl rfl (sq_no rfl rfl (lr _) rfl rfl (sq_ev rfl (ev_pickT (v := .raw _) (lr _) (lr _)) ?_)))
 refine mvr (lr _) rfl (sq_no rfl rfl (lr _) rfl rfl (sq_no rfl rfl (lr _) rfl rfl (sq_ev rfl (ev_pickT (v := .raw _) (lr _) (lr _)) ?_)))
 refine mvr (lr _) rfl (sq_no rfl rfl (lr _) rfl rfl (sq_no rfl rfl (lr _) rfl rfl (sq_ev rfl (ev_pickT (v := .raw _) (lr _) (lr _)) ?_)))
 refine mvr (lr _) rfl (sq_no rfl rfl (lr _) rfl rfl (sq_no rfl rfl (lr _) rfl rfl (sq_ev rfl (ev_pickT (v := .raw _) (lr _) (lr _)) ?_)))
 refine mvr (lr _) rfl (sq_no rfl rfl (lr _) rfl rfl (sq_no rfl rfl (lr _) rfl rfl (sq_ev rfl (ev_pickT (v := .raw _) (lr _) (lr _)) ?_)))
 refine mvr (lr _) rfl (sq_no rfl rfl (lr _) rfl rfl (sq_no rfl rfl (lr _) rfl rfl (sq_ev rfl (ev_pickT (v := .raw _) (lr _) (lr _)) ?_)))
 refine mvr (lr _) rfl (sq_no rfl rfl (lr _) rfl rfl (sq_no rfl rfl (lr _) rfl rfl (sq_ev rfl (ev_pickT (v := .raw _) (lr _) (lr _)) ?_)))
 refine mvr (lr _) rfl (sq_no rfl rfl (lr _) rfl rfl (sq_no rfl rfl (lr _) rfl rfl (sq_ev rfl (ev_pickT (v := .raw _) (lr _) (lr _)) ?_)))
 refine mvr (lr _) rfl (sq_no rfl rfl (lr _) rfl rfl (sq_no rfl rfl (lr _) rfl rfl (sq_ev rfl (ev_pickT (v := .raw _) (lr _) (lr _)) ?_)))
 refine mvr (lr _) rfl (sq_no rfl rfl (lr _) rfl rfl (sq_no rfl rfl (lr _) rfl rfl (sq_ev rfl (ev_pickT (v := .raw _) (lr _) (lr _)) ?_)))
 refine sq_nil ?_
 refine aw_true (lr _) ?_
 refine aw_seq (aw_region ?_)
 refine sq_ev rfl (ev_call en21 (lr _) (known_pure) trivial) ?_
 refine asr (lr _) rfl (sq_nil (aw_ret ?_))
 exact retQ_pure (v := .raw _) rfl rfl (lr _)
theorem law11_bad (p : Pl) (l : List Int) (n m y k a b : Int) (hs : p.scenes.length ≤ 12) (hl : l.length ≤ 12) (hk : PlOK p = false) : APure Tryz.prog 11 [plan p, ints l, I n, I m, I y, I k, I a, I b] (B true) := by
 refine apure_of (rs := [.tmp 16]) Tryz.func11 rfl rfl (Nat.le_of_ble_eq_true rfl) (by simp [AV.pureL, AV.pureB, AV.pureE, pureE_map]) (rfl) fun e0 he0 => ?_
 refine aw_seq (aw_region ?_)
 refine sq_box rfl (lr _) rfl (asr (lr _) rfl (sq_nil (aw_seq (aw_seq (aw_region ?_)))))
 refine sq_ev rfl (ev_load_agg (lr _) rfl ty27 rfl) ?_
 refine sq_ev rfl (ev_call en20 (lr _) (short_yes hs) ⟨lr _, trivial⟩) ?_
 refine sq_ev rfl (ev_not (lr _)) ?_
 refine mvr (lr _) rfl ?_
 refine ysl rfl rfl (lr _) rfl (lr _) ?_
 refine sq_yes rfl rfl (lr _) rfl (ev_call en45 (lr _) (slim_yes hl) ⟨lr _, trivial⟩) ?_
 refine sq_yes rfl rfl (lr _) rfl (ev_not (lr _)) ?_
 refine pf rfl (lr _) (lr _) (mvr (lr _) rfl (sq_yes rfl rfl (lr _) rfl (ev_load_agg (lr _) rfl ty27 rfl) ?_))
 refine sq_yes rfl rfl (lr _) rfl (ev_call en24 (lr _) (plan_no hs hk) ⟨lr _, trivial⟩) ?_
 refine sq_yes rfl rfl (lr _) rfl (ev_not (lr _)) ?_
 refine pf rfl (lr _) (lr _) (mvr (lr _) rfl (sq_no rfl rfl (lr _) rfl rfl (sq_no rfl rfl (lr _) rfl rfl (sq_no rfl rfl (lr _) rfl rfl (sq_no rfl rfl (lr _) rfl rfl (sq_ev rfl (ev_pickT (v := .raw _) (lr _) (lr _)) ?_))))))
 refine mvr (lr _) rfl (sq_no rfl rfl (lr _) rfl rfl (sq_no rfl rfl (lr _) rfl rfl (sq_no rfl rfl (lr _) rfl rfl (sq_no rfl rfl (lr _) rfl rfl (sq_ev rfl (ev_pickT (v := .raw _) (lr _) (lr _)) ?_)))))
 refine mvr (lr _) rfl (sq_no rfl rfl (lr _) rfl rfl (sq_no rfl rfl (lr _) rfl rfl (sq_ev rfl (ev_pickT (v := .raw _) (lr _) (lr _)) ?_)))
 refine mvr (lr _) rfl (sq_no rfl rfl (lr _) rfl rfl (sq_no rfl rfl (lr _) rfl rfl (sq_ev rfl (ev_pickT (v := .raw _) (lr _) (lr _)) ?_)))
 refine mvr (lr _) rfl (sq_no rfl rfl (lr _) rfl rfl (sq_no rfl rfl (lr _) rfl rfl (sq_ev rfl (ev_pickT (v := .raw _) (lr _) (lr _)) ?_)))
 refine mvr (lr _) rfl (sq_no rfl rfl (lr _) rfl rfl (sq_no rfl rfl (lr _) rfl rfl (sq_ev rfl (ev_pickT (v := .raw _) (lr _) (lr _)) ?_)))
 refine mvr (lr _) rfl (sq_no rfl rfl (lr _) rfl rfl (sq_no rfl rfl (lr _) rfl rfl (sq_ev rfl (ev_pickT (v := .raw _) (lr _) (lr _)) ?_)))
 refine mvr (lr _) rfl (sq_no rfl rfl (lr _) rfl rfl (sq_no rfl rfl (lr _) rfl rfl (sq_ev rfl (ev_pickT (v := .raw _) (lr _) (lr _)) ?_)))
 refine mvr (lr _) rfl (sq_no rfl rfl (lr _) rfl rfl (sq_no rfl rfl (lr _) rfl rfl (sq_ev rfl (ev_pickT (v := .raw _) (lr _) (lr _)) ?_)))
 refine mvr (lr _) rfl (sq_no rfl rfl (lr _) rfl rfl (sq_no rfl rfl (lr _) rfl rfl (sq_ev rfl (ev_pickT (v := .raw _) (lr _) (lr _)) ?_)))
 refine mvr (lr _) rfl (sq_no rfl rfl (lr _) rfl rfl (sq_no rfl rfl (lr _) rfl rfl (sq_ev rfl (ev_pickT (v := .raw _) (lr _) (lr _)) ?_)))
 refine mvr (lr _) rfl (sq_no rfl rfl (lr _) rfl rfl (sq_no rfl rfl (lr _) rfl rfl (sq_ev rfl (ev_pickT (v := .raw _) (lr _) (lr _)) ?_)))
 refine sq_nil ?_
 refine aw_true (lr _) ?_
 refine aw_seq (aw_region ?_)
 refine sq_ev rfl (ev_call en21 (lr _) (known_pure) trivial) ?_
 refine asr (lr _) rfl (sq_nil (aw_ret ?_))
 exact retQ_pure (v := .raw _) rfl rfl (lr _)
theorem law11_cho (p : Pl) (l : List Int) (n m y k a b : Int) (hs : p.scenes.length ≤ 12) (hl : l.length ≤ 12) (hk : PlOK p = true) (hc : (Ris p l && isCh p l) = false) : APure Tryz.prog 11 [plan p, ints l, I n, I m, I y, I k, I a, I b] (B true) := by
 refine apure_of (rs := [.tmp 16]) Tryz.func11 rfl rfl (Nat.le_of_ble_eq_true rfl) (by simp [AV.pureL, AV.pureB, AV.pureE, pureE_map]) (rfl) fun e0 he0 => ?_
 refine aw_seq (aw_region ?_)
 refine sq_box rfl (lr _) rfl (asr (lr _) rfl (sq_nil (aw_seq (aw_seq (aw_region ?_)))))
 refine sq_ev rfl (ev_load_agg (lr _) rfl ty27 rfl) ?_
 refine sq_ev rfl (ev_call en20 (lr _) (short_yes hs) ⟨lr _, trivial⟩) ?_
 refine sq_ev rfl (ev_not (lr _)) ?_
 refine mvr (lr _) rfl ?_
 refine ysl rfl rfl (lr _) rfl (lr _) ?_
 refine sq_yes rfl rfl (lr _) rfl (ev_call en45 (lr _) (slim_yes hl) ⟨lr _, trivial⟩) ?_
 refine sq_yes rfl rfl (lr _) rfl (ev_not (lr _)) ?_
 refine pf rfl (lr _) (lr _) (mvr (lr _) rfl (sq_yes rfl rfl (lr _) rfl (ev_load_agg (lr _) rfl ty27 rfl) ?_))
 refine sq_yes rfl rfl (lr _) rfl (ev_call en24 (lr _) (plan_yes hs hk) ⟨lr _, trivial⟩) ?_
 refine sq_yes rfl rfl (lr _) rfl (ev_not (lr _)) ?_
 refine pf rfl (lr _) (lr _) (mvr (lr _) rfl (sq_yes rfl rfl (lr _) rfl (ev_load_agg (lr _) rfl ty27 rfl) ?_))
 refine ysl rfl rfl (lr _) rfl (lr _) ?_
 refine sq_yes rfl rfl (lr _) rfl (ev_call en47 (lr _) (cho_no hs hl hc) ⟨lr _, lr _, trivial⟩) ?_
 refine sq_yes rfl rfl (lr _) rfl (ev_not (lr _)) ?_
 refine pf rfl (lr _) (lr _) (mvr (lr _) rfl (sq_no rfl rfl (lr _) rfl rfl (sq_no rfl rfl (lr _) rfl rfl (sq_no rfl rfl (lr _) rfl rfl (sq_no rfl rfl (lr _) rfl rfl (sq_ev rfl (ev_pickT (v := .raw _) (lr _) (lr _)) ?_))))))
 refine mvr (lr _) rfl (sq_no rfl rfl (lr _) rfl rfl (sq_no rfl rfl (lr _) rfl rfl (sq_ev rfl (ev_pickT (v := .raw _) (lr _) (lr _)) ?_)))
 refine mvr (lr _) rfl (sq_no rfl rfl (lr _) rfl rfl (sq_no rfl rfl (lr _) rfl rfl (sq_ev rfl (ev_pickT (v := .raw _) (lr _) (lr _)) ?_)))
 refine mvr (lr _) rfl (sq_no rfl rfl (lr _) rfl rfl (sq_no rfl rfl (lr _) rfl rfl (sq_ev rfl (ev_pickT (v := .raw _) (lr _) (lr _)) ?_)))
 refine mvr (lr _) rfl (sq_no rfl rfl (lr _) rfl rfl (sq_no rfl rfl (lr _) rfl rfl (sq_ev rfl (ev_pickT (v := .raw _) (lr _) (lr _)) ?_)))
 refine mvr (lr _) rfl (sq_no rfl rfl (lr _) rfl rfl (sq_no rfl rfl (lr _) rfl rfl (sq_ev rfl (ev_pickT (v := .raw _) (lr _) (lr _)) ?_)))
 refine mvr (lr _) rfl (sq_no rfl rfl (lr _) rfl rfl (sq_no rfl rfl (lr _) rfl rfl (sq_ev rfl (ev_pickT (v := .raw _) (lr _) (lr _)) ?_)))
 refine mvr (lr _) rfl (sq_no rfl rfl (lr _) rfl rfl (sq_no rfl rfl (lr _) rfl rfl (sq_ev rfl (ev_pickT (v := .raw _) (lr _) (lr _)) ?_)))
 refine mvr (lr _) rfl (sq_no rfl rfl (lr _) rfl rfl (sq_no rfl rfl (lr _) rfl rfl (sq_ev rfl (ev_pickT (v := .raw _) (lr _) (lr _)) ?_)))
 refine mvr (lr _) rfl (sq_no rfl rfl (lr _) rfl rfl (sq_no rfl rfl (lr _) rfl rfl (sq_ev rfl (ev_pickT (v := .raw _) (lr _) (lr _)) ?_)))
 refine mvr (lr _) rfl (sq_no rfl rfl (lr _) rfl rfl (sq_no rfl rfl (lr _) rfl rfl (sq_ev rfl (ev_pickT (v := .raw _) (lr _) (lr _)) ?_)))
 refine sq_nil ?_
 refine aw_true (lr _) ?_
 refine aw_seq (aw_region ?_)
 refine sq_ev rfl (ev_call en21 (lr _) (known_pure) trivial) ?_
 refine asr (lr _) rfl (sq_nil (aw_ret ?_))
 exact retQ_pure (v := .raw _) rfl rfl (lr _)
theorem law11_sc (p : Pl) (l : List Nat) (n m y k a b : Int) (hs : p.scenes.length ≤ 12) (hl : l.length ≤ 12) (hk : PlOK p = true) (hc : (Ris p (up l) && isCh p (up l)) = true) (hsc : isSc p n = false) : APure Tryz.prog 11 [plan p, nats l, I n, I m, I y, I k, I a, I b] (B true) := by
 refine apure_of (rs := [.tmp 16]) Tryz.func11 rfl rfl (Nat.le_of_ble_eq_true rfl) (by simp [AV.pureL, AV.pureB, AV.pureE, pureE_map]) (rfl) fun e0 he0 => ?_
 refine aw_seq (aw_region ?_)
 refine sq_box rfl (lr _) rfl (asr (lr _) rfl (sq_nil (aw_seq (aw_seq (aw_region ?_)))))
 refine sq_ev rfl (ev_load_agg (lr _) rfl ty27 rfl) ?_
 refine sq_ev rfl (ev_call en20 (lr _) (short_yes hs) ⟨lr _, trivial⟩) ?_
 refine sq_ev rfl (ev_not (lr _)) ?_
 refine mvr (lr _) rfl ?_
 refine ysl rfl rfl (lr _) rfl (lr _) ?_
 refine sq_yes rfl rfl (lr _) rfl (ev_call en45 (lr _) (slim_yesN hl) ⟨lr _, trivial⟩) ?_
 refine sq_yes rfl rfl (lr _) rfl (ev_not (lr _)) ?_
 refine pf rfl (lr _) (lr _) (mvr (lr _) rfl (sq_yes rfl rfl (lr _) rfl (ev_load_agg (lr _) rfl ty27 rfl) ?_))
 refine sq_yes rfl rfl (lr _) rfl (ev_call en24 (lr _) (plan_yes hs hk) ⟨lr _, trivial⟩) ?_
 refine sq_yes rfl rfl (lr _) rfl (ev_not (lr _)) ?_
 refine pf rfl (lr _) (lr _) (mvr (lr _) rfl (sq_yes rfl rfl (lr _) rfl (ev_load_agg (lr _) rfl ty27 rfl) ?_))
 refine ysl rfl rfl (lr _) rfl (lr _) ?_
 refine sq_yes rfl rfl (lr _) rfl (ev_call en47 (lr _) (cho_yesN hs hl hc) ⟨lr _, lr _, trivial⟩) ?_
 refine sq_yes rfl rfl (lr _) rfl (ev_not (lr _)) ?_
 refine pf rfl (lr _) (lr _) (mvr (lr _) rfl (sq_yes rfl rfl (lr _) rfl (ev_load_agg (lr _) rfl ty27 rfl) ?_))
 refine ymr rfl rfl (lr _) rfl (lr _) (sq_yes rfl rfl (lr _) rfl (ev_call en35 (lr _) (sc_pure hs hsc) ⟨lr _, lr _, trivial⟩) ?_)
 refine sq_yes rfl rfl (lr _) rfl (ev_not (lr _)) ?_
 refine pf rfl (lr _) (lr _) (mvr (lr _) rfl (sq_no rfl rfl (lr _) rfl rfl (sq_no rfl rfl (lr _) rfl rfl (sq_ev rfl (ev_pickT (v := .raw _) (lr _) (lr _)) ?_))))
 refine mvr (lr _) rfl (sq_no rfl rfl (lr _) rfl rfl (sq_no rfl rfl (lr _) rfl rfl (sq_ev rfl (ev_pickT (v := .raw _) (lr _) (lr _)) ?_)))
 refine mvr (lr _) rfl (sq_no rfl rfl (lr _) rfl rfl (sq_no rfl rfl (lr _) rfl rfl (sq_ev rfl (ev_pickT (v := .raw _) (lr _) (lr _)) ?_)))
 refine mvr (lr _) rfl (sq_no rfl rfl (lr _) rfl rfl (sq_no rfl rfl (lr _) rfl rfl (sq_ev rfl (ev_pickT (v := .raw _) (lr _) (lr _)) ?_)))
 refine mvr (lr _) rfl (sq_no rfl rfl (lr _) rfl rfl (sq_no rfl rfl (lr _) rfl rfl (sq_ev rfl (ev_pickT (v := .raw _) (lr _) (lr _)) ?_)))
 refine mvr (lr _) rfl (sq_no rfl rfl (lr _) rfl rfl (sq_no rfl rfl (lr _) rfl rfl (sq_ev rfl (ev_pickT (v := .raw _) (lr _) (lr _)) ?_)))
 refine mvr (lr _) rfl (sq_no rfl rfl (lr _) rfl rfl (sq_no rfl rfl (lr _) rfl rfl (sq_ev rfl (ev_pickT (v := .raw _) (lr _) (lr _)) ?_)))
 refine mvr (lr _) rfl (sq_no rfl rfl (lr _) rfl rfl (sq_no rfl rfl (lr _) rfl rfl (sq_ev rfl (ev_pickT (v := .raw _) (lr _) (lr _)) ?_)))
 refine mvr (lr _) rfl (sq_no rfl rfl (lr _) rfl rfl (sq_no rfl rfl (lr _) rfl rfl (sq_ev rfl (ev_pickT (v := .raw _) (lr _) (lr _)) ?_)))
 refine mvr (lr _) rfl (sq_no rfl rfl (lr _) rfl rfl (sq_no rfl rfl (lr _) rfl rfl (sq_ev rfl (ev_pickT (v := .raw _) (lr _) (lr _)) ?_)))
 refine sq_nil ?_
 refine aw_true (lr _) ?_
 refine aw_seq (aw_region ?_)
 refine sq_ev rfl (ev_call en21 (lr _) (known_pure) trivial) ?_
 refine asr (lr _) rfl (sq_nil (aw_ret ?_))
 exact retQ_pure (v := .raw _) rfl rfl (lr _)
theorem law11_out (p : Pl) (l : List Nat) (n m y k a b : Int) (hs : p.scenes.length ≤ 12) (hl : l.length ≤ 12) (hk : PlOK p = true) (hc : (Ris p (up l) && isCh p (up l)) = true) (hsc : isSc p n = true) (ho : ¬ (0 ≤ m ∧ m ≤ 240 ∧ 0 ≤ y ∧ y ≤ 240 ∧ 0 ≤ k ∧ k ≤ 2 ∧ 0 ≤ a ∧ a ≤ 30 ∧ 0 ≤ b ∧ b ≤ 30)) : APure Tryz.prog 11 [plan p, nats l, I n, I m, I y, I k, I a, I b] (B true) := by
 refine apure_of (rs := [.tmp 16]) Tryz.func11 rfl rfl (Nat.le_of_ble_eq_true rfl) (by simp [AV.pureL, AV.pureB, AV.pureE, pureE_map]) (rfl) fun e0 he0 => ?_
 refine aw_seq (aw_region ?_)
 refine sq_box rfl (lr _) rfl (asr (lr _) rfl (sq_nil (aw_seq (aw_seq (aw_region ?_)))))
 refine sq_ev rfl (ev_load_agg (lr _) rfl ty27 rfl) ?_
 refine sq_ev rfl (ev_call en20 (lr _) (short_yes hs) ⟨lr _, trivial⟩) ?_
 refine sq_ev rfl (ev_not (lr _)) ?_
 refine mvr (lr _) rfl ?_
 refine ysl rfl rfl (lr _) rfl (lr _) ?_
 refine sq_yes rfl rfl (lr _) rfl (ev_call en45 (lr _) (slim_yesN hl) ⟨lr _, trivial⟩) ?_
 refine sq_yes rfl rfl (lr _) rfl (ev_not (lr _)) ?_
 refine pf rfl (lr _) (lr _) (mvr (lr _) rfl (sq_yes rfl rfl (lr _) rfl (ev_load_agg (lr _) rfl ty27 rfl) ?_))
 refine sq_yes rfl rfl (lr _) rfl (ev_call en24 (lr _) (plan_yes hs hk) ⟨lr _, trivial⟩) ?_
 refine sq_yes rfl rfl (lr _) rfl (ev_not (lr _)) ?_
 refine pf rfl (lr _) (lr _) (mvr (lr _) rfl (sq_yes rfl rfl (lr _) rfl (ev_load_agg (lr _) rfl ty27 rfl) ?_))
 refine ysl rfl rfl (lr _) rfl (lr _) ?_
 refine sq_yes rfl rfl (lr _) rfl (ev_call en47 (lr _) (cho_yesN hs hl hc) ⟨lr _, lr _, trivial⟩) ?_
 refine sq_yes rfl rfl (lr _) rfl (ev_not (lr _)) ?_
 refine pf rfl (lr _) (lr _) (mvr (lr _) rfl (sq_yes rfl rfl (lr _) rfl (ev_load_agg (lr _) rfl ty27 rfl) ?_))
 refine ymr rfl rfl (lr _) rfl (lr _) (sq_yes rfl rfl (lr _) rfl (ev_call en35 (lr _) (sc_pure hs hsc) ⟨lr _, lr _, trivial⟩) ?_)
 refine sq_yes rfl rfl (lr _) rfl (ev_not (lr _)) ?_
 refine pf rfl (lr _) (lr _) (mvr (lr _) rfl (ymr rfl rfl (lr _) rfl (lr _) (sq_yes rfl rfl (lr _) rfl (ev_lss (lr _) (lr _)) ?_)))
 refine pf rfl (lr _) (lr _) (mvr (lr _) rfl ?_)
 refine sq_split 58 (lr _) (fun g1_29 => ?_) (fun g1_29 => ?_)
 ·
  have g1_29' := of_decide_eq_true g1_29
  refine sq_no rfl rfl (less_b g1_29) rfl rfl ?_
  refine sq_no rfl rfl (less_b g1_29) rfl rfl ?_
  refine sq_ev rfl (ev_pickT (v := .raw _) (less_b g1_29) (lr _)) ?_
  refine mvr (lr _) rfl (sq_no rfl rfl (lr _) rfl rfl (sq_no rfl rfl (lr _) rfl rfl (sq_ev rfl (ev_pickT (v := .raw _) (lr _) (lr _)) ?_)))
  refine mvr (lr _) rfl (sq_no rfl rfl (lr _) rfl rfl (sq_no rfl rfl (lr _) rfl rfl (sq_ev rfl (ev_pickT (v := .raw _) (lr _) (lr _)) ?_)))
  refine mvr (lr _) rfl (sq_no rfl rfl (lr _) rfl rfl (sq_no rfl rfl (lr _) rfl rfl (sq_ev rfl (ev_pickT (v := .raw _) (lr _) (lr _)) ?_)))
  refine mvr (lr _) rfl (sq_no rfl rfl (lr _) rfl rfl (sq_no rfl rfl (lr _) rfl rfl (sq_ev rfl (ev_pickT (v := .raw _) (lr _) (lr _)) ?_)))
  refine mvr (lr _) rfl (sq_no rfl rfl (lr _) rfl rfl (sq_no rfl rfl (lr _) rfl rfl (sq_ev rfl (ev_pickT (v := .raw _) (lr _) (lr _)) ?_)))
  refine mvr (lr _) rfl (sq_no rfl rfl (lr _) rfl rfl (sq_no rfl rfl (lr _) rfl rfl (sq_ev rfl (ev_pickT (v := .raw _) (lr _) (lr _)) ?_)))
  refine mvr (lr _) rfl (sq_no rfl rfl (lr _) rfl rfl (sq_no rfl rfl (lr _) rfl rfl (sq_ev rfl (ev_pickT (v := .raw _) (lr _) (lr _)) ?_)))
  refine mvr (lr _) rfl (sq_no rfl rfl (lr _) rfl rfl (sq_no rfl rfl (lr _) rfl rfl (sq_ev rfl (ev_pickT (v := .raw _) (lr _) (lr _)) ?_)))
  refine sq_nil ?_
  refine aw_true (lr _) ?_
  refine aw_seq (aw_region ?_)
  refine sq_ev rfl (ev_call en21 (lr _) (known_pure) trivial) ?_
  refine asr (lr _) rfl (sq_nil (aw_ret ?_))
  exact retQ_pure (v := .raw _) rfl rfl (lr _)
 ·
  have g1_29' := of_decide_eq_false g1_29
  refine sq_yes rfl rfl (less_b g1_29) rfl (ev_mv (v := .raw _) (lr _)) ?_
  refine sq_yes rfl rfl (less_b g1_29) rfl (ev_gtr (lr _) (lr _)) ?_
  refine sq_ev rfl (ev_pickF (v := .raw _) (less_b g1_29) (lr _)) ?_
  refine mvr (lr _) rfl ?_
  refine sq_split 62 (lr _) (fun g1_33 => ?_) (fun g1_33 => ?_)
  ·
   have g1_33' := of_decide_eq_true g1_33
   refine sq_no rfl rfl (less_b g1_33) rfl rfl ?_
   refine sq_no rfl rfl (less_b g1_33) rfl rfl ?_
   refine sq_ev rfl (ev_pickT (v := .raw _) (less_b g1_33) (lr _)) ?_
   refine mvr (lr _) rfl (sq_no rfl rfl (lr _) rfl rfl (sq_no rfl rfl (lr _) rfl rfl (sq_ev rfl (ev_pickT (v := .raw _) (lr _) (lr _)) ?_)))
   refine mvr (lr _) rfl (sq_no rfl rfl (lr _) rfl rfl (sq_no rfl rfl (lr _) rfl rfl (sq_ev rfl (ev_pickT (v := .raw _) (lr _) (lr _)) ?_)))
   refine mvr (lr _) rfl (sq_no rfl rfl (lr _) rfl rfl (sq_no rfl rfl (lr _) rfl rfl (sq_ev rfl (ev_pickT (v := .raw _) (lr _) (lr _)) ?_)))
   refine mvr (lr _) rfl (sq_no rfl rfl (lr _) rfl rfl (sq_no rfl rfl (lr _) rfl rfl (sq_ev rfl (ev_pickT (v := .raw _) (lr _) (lr _)) ?_)))
   refine mvr (lr _) rfl (sq_no rfl rfl (lr _) rfl rfl (sq_no rfl rfl (lr _) rfl rfl (sq_ev rfl (ev_pickT (v := .raw _) (lr _) (lr _)) ?_)))
   refine mvr (lr _) rfl (sq_no rfl rfl (lr _) rfl rfl (sq_no rfl rfl (lr _) rfl rfl (sq_ev rfl (ev_pickT (v := .raw _) (lr _) (lr _)) ?_)))
   refine mvr (lr _) rfl (sq_no rfl rfl (lr _) rfl rfl (sq_no rfl rfl (lr _) rfl rfl (sq_ev rfl (ev_pickT (v := .raw _) (lr _) (lr _)) ?_)))
   refine sq_nil ?_
   refine aw_true (lr _) ?_
   refine aw_seq (aw_region ?_)
   refine sq_ev rfl (ev_call en21 (lr _) (known_pure) trivial) ?_
   refine asr (lr _) rfl (sq_nil (aw_ret ?_))
   exact retQ_pure (v := .raw _) rfl rfl (lr _)
  ·
   have g1_33' := of_decide_eq_false g1_33
   refine sq_yes rfl rfl (less_b g1_33) rfl (ev_mv (v := .raw _) (lr _)) ?_
   refine sq_yes rfl rfl (less_b g1_33) rfl (ev_lss (lr _) (lr _)) ?_
   refine sq_ev rfl (ev_pickF (v := .raw _) (less_b g1_33) (lr _)) ?_
   refine mvr (lr _) rfl ?_
   refine sq_split 66 (lr _) (fun g1_37 => ?_) (fun g1_37 => ?_)
   ·
    have g1_37' := of_decide_eq_true g1_37
    refine sq_no rfl rfl (less_b g1_37) rfl rfl ?_
    refine sq_no rfl rfl (less_b g1_37) rfl rfl ?_
    refine sq_ev rfl (ev_pickT (v := .raw _) (less_b g1_37) (lr _)) ?_
    refine mvr (lr _) rfl (sq_no rfl rfl (lr _) rfl rfl (sq_no rfl rfl (lr _) rfl rfl (sq_ev rfl (ev_pickT (v := .raw _) (lr _) (lr _)) ?_)))
    refine mvr (lr _) rfl (sq_no rfl rfl (lr _) rfl rfl (sq_no rfl rfl (lr _) rfl rfl (sq_ev rfl (ev_pickT (v := .raw _) (lr _) (lr _)) ?_)))
    refine mvr (lr _) rfl (sq_no rfl rfl (lr _) rfl rfl (sq_no rfl rfl (lr _) rfl rfl (sq_ev rfl (ev_pickT (v := .raw _) (lr _) (lr _)) ?_)))
    refine mvr (lr _) rfl (sq_no rfl rfl (lr _) rfl rfl (sq_no rfl rfl (lr _) rfl rfl (sq_ev rfl (ev_pickT (v := .raw _) (lr _) (lr _)) ?_)))
    refine mvr (lr _) rfl (sq_no rfl rfl (lr _) rfl rfl (sq_no rfl rfl (lr _) rfl rfl (sq_ev rfl (ev_pickT (v := .raw _) (lr _) (lr _)) ?_)))
    refine mvr (lr _) rfl (sq_no rfl rfl (lr _) rfl rfl (sq_no rfl rfl (lr _) rfl rfl (sq_ev rfl (ev_pickT (v := .raw _) (lr _) (lr _)) ?_)))
    refine sq_nil ?_
    refine aw_true (lr _) ?_
    refine aw_seq (aw_region ?_)
    refine sq_ev rfl (ev_call en21 (lr _) (known_pure) trivial) ?_
    refine asr (lr _) rfl (sq_nil (aw_ret ?_))
    exact retQ_pure (v := .raw _) rfl rfl (lr _)
   ·
    have g1_37' := of_decide_eq_false g1_37
    refine sq_yes rfl rfl (less_b g1_37) rfl (ev_mv (v := .raw _) (lr _)) ?_
    refine sq_yes rfl rfl (less_b g1_37) rfl (ev_gtr (lr _) (lr _)) ?_
    refine sq_ev rfl (ev_pickF (v := .raw _) (less_b g1_37) (lr _)) ?_
    refine mvr (lr _) rfl ?_
    refine sq_split 70 (lr _) (fun g1_41 => ?_) (fun g1_41 => ?_)
    ·
     have g1_41' := of_decide_eq_true g1_41
     refine sq_no rfl rfl (less_b g1_41) rfl rfl ?_
     refine sq_no rfl rfl (less_b g1_41) rfl rfl ?_
     refine sq_ev rfl (ev_pickT (v := .raw _) (less_b g1_41) (lr _)) ?_
     refine mvr (lr _) rfl (sq_no rfl rfl (lr _) rfl rfl (sq_no rfl rfl (lr _) rfl rfl (sq_ev rfl (ev_pickT (v := .raw _) (lr _) (lr _)) ?_)))
     refine mvr (lr _) rfl (sq_no rfl rfl (lr _) rfl rfl (sq_no rfl rfl (lr _) rfl rfl (sq_ev rfl (ev_pickT (v := .raw _) (lr _) (lr _)) ?_)))
     refine mvr (lr _) rfl (sq_no rfl rfl (lr _) rfl rfl (sq_no rfl rfl (lr _) rfl rfl (sq_ev rfl (ev_pickT (v := .raw _) (lr _) (lr _)) ?_)))
     refine mvr (lr _) rfl (sq_no rfl rfl (lr _) rfl rfl (sq_no rfl rfl (lr _) rfl rfl (sq_ev rfl (ev_pickT (v := .raw _) (lr _) (lr _)) ?_)))
     refine mvr (lr _) rfl (sq_no rfl rfl (lr _) rfl rfl (sq_no rfl rfl (lr _) rfl rfl (sq_ev rfl (ev_pickT (v := .raw _) (lr _) (lr _)) ?_)))
     refine sq_nil ?_
     refine aw_true (lr _) ?_
     refine aw_seq (aw_region ?_)
     refine sq_ev rfl (ev_call en21 (lr _) (known_pure) trivial) ?_
     refine asr (lr _) rfl (sq_nil (aw_ret ?_))
     exact retQ_pure (v := .raw _) rfl rfl (lr _)
    ·
     have g1_41' := of_decide_eq_false g1_41
     refine sq_yes rfl rfl (less_b g1_41) rfl (ev_mv (v := .raw _) (lr _)) ?_
     refine sq_yes rfl rfl (less_b g1_41) rfl (ev_lss (lr _) (lr _)) ?_
     refine sq_ev rfl (ev_pickF (v := .raw _) (less_b g1_41) (lr _)) ?_
     refine mvr (lr _) rfl ?_
     refine sq_split 74 (lr _) (fun g1_45 => ?_) (fun g1_45 => ?_)
     ·
      have g1_45' := of_decide_eq_true g1_45
      refine sq_no rfl rfl (less_b g1_45) rfl rfl ?_
      refine sq_no rfl rfl (less_b g1_45) rfl rfl ?_
      refine sq_ev rfl (ev_pickT (v := .raw _) (less_b g1_45) (lr _)) ?_
      refine mvr (lr _) rfl (sq_no rfl rfl (lr _) rfl rfl (sq_no rfl rfl (lr _) rfl rfl (sq_ev rfl (ev_pickT (v := .raw _) (lr _) (lr _)) ?_)))
      refine mvr (lr _) rfl (sq_no rfl rfl (lr _) rfl rfl (sq_no rfl rfl (lr _) rfl rfl (sq_ev rfl (ev_pickT (v := .raw _) (lr _) (lr _)) ?_)))
      refine mvr (lr _) rfl (sq_no rfl rfl (lr _) rfl rfl (sq_no rfl rfl (lr _) rfl rfl (sq_ev rfl (ev_pickT (v := .raw _) (lr _) (lr _)) ?_)))
      refine mvr (lr _) rfl (sq_no rfl rfl (lr _) rfl rfl (sq_no rfl rfl (lr _) rfl rfl (sq_ev rfl (ev_pickT (v := .raw _) (lr _) (lr _)) ?_)))
      refine sq_nil ?_
      refine aw_true (lr _) ?_
      refine aw_seq (aw_region ?_)
      refine sq_ev rfl (ev_call en21 (lr _) (known_pure) trivial) ?_
      refine asr (lr _) rfl (sq_nil (aw_ret ?_))
      exact retQ_pure (v := .raw _) rfl rfl (lr _)
     ·
      have g1_45' := of_decide_eq_false g1_45
      refine sq_yes rfl rfl (less_b g1_45) rfl (ev_mv (v := .raw _) (lr _)) ?_
      refine sq_yes rfl rfl (less_b g1_45) rfl (ev_gtr (lr _) (lr _)) ?_
      refine sq_ev rfl (ev_pickF (v := .raw _) (less_b g1_45) (lr _)) ?_
      refine mvr (lr _) rfl ?_
      refine sq_split 78 (lr _) (fun g1_49 => ?_) (fun g1_49 => ?_)
      ·
       have g1_49' := of_decide_eq_true g1_49
       refine sq_no rfl rfl (less_b g1_49) rfl rfl ?_
       refine sq_no rfl rfl (less_b g1_49) rfl rfl ?_
       refine sq_ev rfl (ev_pickT (v := .raw _) (less_b g1_49) (lr _)) ?_
       refine mvr (lr _) rfl (sq_no rfl rfl (lr _) rfl rfl (sq_no rfl rfl (lr _) rfl rfl (sq_ev rfl (ev_pickT (v := .raw _) (lr _) (lr _)) ?_)))
       refine mvr (lr _) rfl (sq_no rfl rfl (lr _) rfl rfl (sq_no rfl rfl (lr _) rfl rfl (sq_ev rfl (ev_pickT (v := .raw _) (lr _) (lr _)) ?_)))
       refine mvr (lr _) rfl (sq_no rfl rfl (lr _) rfl rfl (sq_no rfl rfl (lr _) rfl rfl (sq_ev rfl (ev_pickT (v := .raw _) (lr _) (lr _)) ?_)))
       refine sq_nil ?_
       refine aw_true (lr _) ?_
       refine aw_seq (aw_region ?_)
       refine sq_ev rfl (ev_call en21 (lr _) (known_pure) trivial) ?_
       refine asr (lr _) rfl (sq_nil (aw_ret ?_))
       exact retQ_pure (v := .raw _) rfl rfl (lr _)
      ·
       have g1_49' := of_decide_eq_false g1_49
       refine sq_yes rfl rfl (less_b g1_49) rfl (ev_mv (v := .raw _) (lr _)) ?_
       refine sq_yes rfl rfl (less_b g1_49) rfl (ev_lss (lr _) (lr _)) ?_
       refine sq_ev rfl (ev_pickF (v := .raw _) (less_b g1_49) (lr _)) ?_
       refine mvr (lr _) rfl ?_
       refine sq_split 82 (lr _) (fun g1_53 => ?_) (fun g1_53 => ?_)
       ·
        have g1_53' := of_decide_eq_true g1_53
        refine sq_no rfl rfl (less_b g1_53) rfl rfl ?_
        refine sq_no rfl rfl (less_b g1_53) rfl rfl ?_
        refine sq_ev rfl (ev_pickT (v := .raw _) (less_b g1_53) (lr _)) ?_
        refine mvr (lr _) rfl (sq_no rfl rfl (lr _) rfl rfl (sq_no rfl rfl (lr _) rfl rfl (sq_ev rfl (ev_pickT (v := .raw _) (lr _) (lr _)) ?_)))
        refine mvr (lr _) rfl (sq_no rfl rfl (lr _) rfl rfl (sq_no rfl rfl (lr _) rfl rfl (sq_ev rfl (ev_pickT (v := .raw _) (lr _) (lr _)) ?_)))
        refine sq_nil ?_
        refine aw_true (lr _) ?_
        refine aw_seq (aw_region ?_)
        refine sq_ev rfl (ev_call en21 (lr _) (known_pure) trivial) ?_
        refine asr (lr _) rfl (sq_nil (aw_ret ?_))
        exact retQ_pure (v := .raw _) rfl rfl (lr _)
       ·
        have g1_53' := of_decide_eq_false g1_53
        refine sq_yes rfl rfl (less_b g1_53) rfl (ev_mv (v := .raw _) (lr _)) ?_
        refine sq_yes rfl rfl (less_b g1_53) rfl (ev_gtr (lr _) (lr _)) ?_
        refine sq_ev rfl (ev_pickF (v := .raw _) (less_b g1_53) (lr _)) ?_
        refine mvr (lr _) rfl ?_
        refine sq_split 86 (lr _) (fun g1_57 => ?_) (fun g1_57 => ?_)
        ·
         have g1_57' := of_decide_eq_true g1_57
         refine sq_no rfl rfl (less_b g1_57) rfl rfl ?_
         refine sq_no rfl rfl (less_b g1_57) rfl rfl ?_
         refine sq_ev rfl (ev_pickT (v := .raw _) (less_b g1_57) (lr _)) ?_
         refine mvr (lr _) rfl (sq_no rfl rfl (lr _) rfl rfl (sq_no rfl rfl (lr _) rfl rfl (sq_ev rfl (ev_pickT (v := .raw _) (lr _) (lr _)) ?_)))
         refine sq_nil ?_
         refine aw_true (lr _) ?_
         refine aw_seq (aw_region ?_)
         refine sq_ev rfl (ev_call en21 (lr _) (known_pure) trivial) ?_
         refine asr (lr _) rfl (sq_nil (aw_ret ?_))
         exact retQ_pure (v := .raw _) rfl rfl (lr _)
        ·
         have g1_57' := of_decide_eq_false g1_57
         refine sq_yes rfl rfl (less_b g1_57) rfl (ev_mv (v := .raw _) (lr _)) ?_
         refine sq_yes rfl rfl (less_b g1_57) rfl (ev_lss (lr _) (lr _)) ?_
         refine sq_ev rfl (ev_pickF (v := .raw _) (less_b g1_57) (lr _)) ?_
         refine mvr (lr _) rfl ?_
         refine sq_split 90 (lr _) (fun g1_61 => ?_) (fun g1_61 => ?_)
         ·
          have g1_61' := of_decide_eq_true g1_61
          refine sq_no rfl rfl (less_b g1_61) rfl rfl ?_
          refine sq_no rfl rfl (less_b g1_61) rfl rfl ?_
          refine sq_ev rfl (ev_pickT (v := .raw _) (less_b g1_61) (lr _)) ?_
          refine sq_nil ?_
          refine aw_true (lr _) ?_
          refine aw_seq (aw_region ?_)
          refine sq_ev rfl (ev_call en21 (lr _) (known_pure) trivial) ?_
          refine asr (lr _) rfl (sq_nil (aw_ret ?_))
          exact retQ_pure (v := .raw _) rfl rfl (lr _)
         ·
          have g1_61' := of_decide_eq_false g1_61
          refine sq_yes rfl rfl (less_b g1_61) rfl (ev_mv (v := .raw _) (lr _)) ?_
          refine sq_yes rfl rfl (less_b g1_61) rfl (ev_gtr (lr _) (lr _)) ?_
          refine sq_ev rfl (ev_pickF (v := .raw _) (less_b g1_61) (lr _)) ?_
          refine sq_nil ?_
          refine aw_cond (lr _) (fun c_93 => ?_) (fun c_93 => ?_)
          ·
           have c_93' := of_decide_eq_true c_93
           refine aw_seq (aw_region ?_)
           refine sq_ev rfl (ev_call en21 (lr _) (known_pure) trivial) ?_
           refine asr (lr _) rfl (sq_nil (aw_ret ?_))
           exact retQ_pure (v := .raw _) rfl rfl (lr _)
          ·
           have c_93' := of_decide_eq_false c_93
           exfalso; omega
set_option maxRecDepth 10000 in
theorem law11_main (p : Pl) (l : List Nat) (n : Nat) (m y : Int) (k : Nat) (a b : Int) (hs : p.scenes.length ≤ 12) (hl : l.length ≤ 12) (hk : PlOK p = true) (hc : (Ris p (up l) && isCh p (up l)) = true) (hsc : isSc p n = true) (hn : n < p.scenes.length)
  (hm : 0 ≤ m ∧ m ≤ 240) (hy : 0 ≤ y ∧ y ≤ 240) (hk3 : k < 3) (ha : 0 ≤ a ∧ a ≤ 30) (hb : 0 ≤ b ∧ b ≤ 30) (hmo : 0 ≤ p.scenes[n].most ∧ p.scenes[n].most ≤ 240) (hle : 0 ≤ (scn p n).least ∧ (scn p n).least ≤ 240) (hw : 0 ≤ wl p k ∧ wl p k ≤ 900 ∧ 0 ≤ wh p k ∧ wh p k ≤ 900)
  (hch : chosenB p (up l) = true) (L : List (List Nat)) (hLc : choicesC p = L) (hL : L.length ≤ 64) (px py cq : Bool) (h24x : APure Tryz.prog 24 [plan (wideP p n m y k a b)] (B px)) (h55x : px = true → APure Tryz.prog 55 [plan (wideP p n m y k a b), nats l] (.tup [B cq, I 0]) ∧ (canP p l = true → cq = true))
  (h24y : APure Tryz.prog 24 [plan (looseP p n)] (B py)) (D : List (List Nat)) (h22y : py = true → APure Tryz.prog 22 [plan (looseP p n)] (.tup [natss D, I 0]) ∧ D.length ≤ 64 ∧ ∀ j (hj : j < L.length), APure Tryz.prog 57 [natss D, nats L[j]] (B true)) : APure Tryz.prog 11 [plan p, nats l, I n, I m, I y, I k, I a, I b] (B true) := by
 refine apure_of (rs := [.tmp 16]) Tryz.func11 rfl rfl (Nat.le_of_ble_eq_true rfl) (by simp [AV.pureL, AV.pureB, AV.pureE, pureE_map]) (rfl) fun e0 he0 => ?_
 refine aw_seq (aw_region ?_)
 refine sq_box rfl (lr _) rfl (asr (lr _) rfl (sq_nil (aw_seq (aw_seq (aw_region ?_)))))
 refine sq_ev rfl (ev_load_agg (lr _) rfl ty27 rfl) ?_
 refine sq_ev rfl (ev_call en20 (lr _) (short_yes hs) ⟨lr _, trivial⟩) ?_
 refine sq_ev rfl (ev_not (lr _)) ?_
 refine mvr (lr _) rfl ?_
 refine ysl rfl rfl (lr _) rfl (lr _) ?_
 refine sq_yes rfl rfl (lr _) rfl (ev_call en45 (lr _) (slim_yesN hl) ⟨lr _, trivial⟩) ?_
 refine sq_yes rfl rfl (lr _) rfl (ev_not (lr _)) ?_
 refine pf rfl (lr _) (lr _) (mvr (lr _) rfl (sq_yes rfl rfl (lr _) rfl (ev_load_agg (lr _) rfl ty27 rfl) ?_))
 refine sq_yes rfl rfl (lr _) rfl (ev_call en24 (lr _) (plan_yes hs hk) ⟨lr _, trivial⟩) ?_
 refine sq_yes rfl rfl (lr _) rfl (ev_not (lr _)) ?_
 refine pf rfl (lr _) (lr _) (mvr (lr _) rfl (sq_yes rfl rfl (lr _) rfl (ev_load_agg (lr _) rfl ty27 rfl) ?_))
 refine ysl rfl rfl (lr _) rfl (lr _) ?_
 refine sq_yes rfl rfl (lr _) rfl (ev_call en47 (lr _) (cho_yesN hs hl hc) ⟨lr _, lr _, trivial⟩) ?_
 refine sq_yes rfl rfl (lr _) rfl (ev_not (lr _)) ?_
 refine pf rfl (lr _) (lr _) (mvr (lr _) rfl (sq_yes rfl rfl (lr _) rfl (ev_load_agg (lr _) rfl ty27 rfl) ?_))
 refine ymr rfl rfl (lr _) rfl (lr _) (sq_yes rfl rfl (lr _) rfl (ev_call en35 (lr _) (sc_pure hs hsc) ⟨lr _, lr _, trivial⟩) ?_)
 refine sq_yes rfl rfl (lr _) rfl (ev_not (lr _)) ?_
 refine pf rfl (lr _) (lr _) (mvr (lr _) rfl (ymr rfl rfl (lr _) rfl (lr _) (sq_yes rfl rfl (lr _) rfl (ev_lss (lr _) (lr _)) ?_)))
 refine pf rfl (lr _) (lr _) (mvr (lr _) rfl ?_)
 refine sq_split 58 (lr _) (fun g1_29 => ?_) (fun g1_29 => ?_)
 ·
  have g1_29' := of_decide_eq_true g1_29
  exfalso; omega
 ·
  have g1_29' := of_decide_eq_false g1_29
  refine sq_yes rfl rfl (less_b g1_29) rfl (ev_mv (v := .raw _) (lr _)) ?_
  refine sq_yes rfl rfl (less_b g1_29) rfl (ev_gtr (lr _) (lr _)) ?_
  refine sq_ev rfl (ev_pickF (v := .raw _) (less_b g1_29) (lr _)) ?_
  refine mvr (lr _) rfl ?_
  refine sq_split 62 (lr _) (fun g1_33 => ?_) (fun g1_33 => ?_)
  ·
   have g1_33' := of_decide_eq_true g1_33
   exfalso; omega
  ·
   have g1_33' := of_decide_eq_false g1_33
   refine sq_yes rfl rfl (less_b g1_33) rfl (ev_mv (v := .raw _) (lr _)) ?_
   refine sq_yes rfl rfl (less_b g1_33) rfl (ev_lss (lr _) (lr _)) ?_
   refine sq_ev rfl (ev_pickF (v := .raw _) (less_b g1_33) (lr _)) ?_
   refine mvr (lr _) rfl ?_
   refine sq_split 66 (lr _) (fun g1_37 => ?_) (fun g1_37 => ?_)
   ·
    have g1_37' := of_decide_eq_true g1_37
    exfalso; omega
   ·
    have g1_37' := of_decide_eq_false g1_37
    refine sq_yes rfl rfl (less_b g1_37) rfl (ev_mv (v := .raw _) (lr _)) ?_
    refine sq_yes rfl rfl (less_b g1_37) rfl (ev_gtr (lr _) (lr _)) ?_
    refine sq_ev rfl (ev_pickF (v := .raw _) (less_b g1_37) (lr _)) ?_
    refine mvr (lr _) rfl ?_
    refine sq_split 70 (lr _) (fun g1_41 => ?_) (fun g1_41 => ?_)
    ·
     have g1_41' := of_decide_eq_true g1_41
     exfalso; omega
    ·
     have g1_41' := of_decide_eq_false g1_41
     refine sq_yes rfl rfl (less_b g1_41) rfl (ev_mv (v := .raw _) (lr _)) ?_
     refine sq_yes rfl rfl (less_b g1_41) rfl (ev_lss (lr _) (lr _)) ?_
     refine sq_ev rfl (ev_pickF (v := .raw _) (less_b g1_41) (lr _)) ?_
     refine mvr (lr _) rfl ?_
     refine sq_split 74 (lr _) (fun g1_45 => ?_) (fun g1_45 => ?_)
     ·
      have g1_45' := of_decide_eq_true g1_45
      exfalso; omega
     ·
      have g1_45' := of_decide_eq_false g1_45
      refine sq_yes rfl rfl (less_b g1_45) rfl (ev_mv (v := .raw _) (lr _)) ?_
      refine sq_yes rfl rfl (less_b g1_45) rfl (ev_gtr (lr _) (lr _)) ?_
      refine sq_ev rfl (ev_pickF (v := .raw _) (less_b g1_45) (lr _)) ?_
      refine mvr (lr _) rfl ?_
      refine sq_split 78 (lr _) (fun g1_49 => ?_) (fun g1_49 => ?_)
      ·
       have g1_49' := of_decide_eq_true g1_49
       exfalso; omega
      ·
       have g1_49' := of_decide_eq_false g1_49
       refine sq_yes rfl rfl (less_b g1_49) rfl (ev_mv (v := .raw _) (lr _)) ?_
       refine sq_yes rfl rfl (less_b g1_49) rfl (ev_lss (lr _) (lr _)) ?_
       refine sq_ev rfl (ev_pickF (v := .raw _) (less_b g1_49) (lr _)) ?_
       refine mvr (lr _) rfl ?_
       refine sq_split 82 (lr _) (fun g1_53 => ?_) (fun g1_53 => ?_)
       ·
        have g1_53' := of_decide_eq_true g1_53
        exfalso; omega
       ·
        have g1_53' := of_decide_eq_false g1_53
        refine sq_yes rfl rfl (less_b g1_53) rfl (ev_mv (v := .raw _) (lr _)) ?_
        refine sq_yes rfl rfl (less_b g1_53) rfl (ev_gtr (lr _) (lr _)) ?_
        refine sq_ev rfl (ev_pickF (v := .raw _) (less_b g1_53) (lr _)) ?_
        refine mvr (lr _) rfl ?_
        refine sq_split 86 (lr _) (fun g1_57 => ?_) (fun g1_57 => ?_)
        ·
         have g1_57' := of_decide_eq_true g1_57
         exfalso; omega
        ·
         have g1_57' := of_decide_eq_false g1_57
         refine sq_yes rfl rfl (less_b g1_57) rfl (ev_mv (v := .raw _) (lr _)) ?_
         refine sq_yes rfl rfl (less_b g1_57) rfl (ev_lss (lr _) (lr _)) ?_
         refine sq_ev rfl (ev_pickF (v := .raw _) (less_b g1_57) (lr _)) ?_
         refine mvr (lr _) rfl ?_
         refine sq_split 90 (lr _) (fun g1_61 => ?_) (fun g1_61 => ?_)
         ·
          have g1_61' := of_decide_eq_true g1_61
          exfalso; omega
         ·
          have g1_61' := of_decide_eq_false g1_61
          refine sq_yes rfl rfl (less_b g1_61) rfl (ev_mv (v := .raw _) (lr _)) ?_
          refine sq_yes rfl rfl (less_b g1_61) rfl (ev_gtr (lr _) (lr _)) ?_
          refine sq_ev rfl (ev_pickF (v := .raw _) (less_b g1_61) (lr _)) ?_
          refine sq_nil ?_
          refine aw_cond (lr _) (fun c_93 => ?_) (fun c_93 => ?_)
          ·
           have c_93' := of_decide_eq_true c_93
           exfalso; omega
          ·
           have c_93' := of_decide_eq_false c_93
           refine aw_skip (aw_seq (aw_region ?_))
           refine sq_ev rfl (ev_load_agg (lr _) rfl ty27 rfl) ?_
           refine mvs rfl (lr _) (sq_ev rfl (ev_call en55 (lr _) (cn_yes hs hl hch) ⟨lr _, lr _, trivial⟩) ?_)
           refine sq_ev rfl (ev_mv (v := .tup _) (lr _)) ?_
           refine xtr rfl (lr _) rfl (xtr rfl (lr _) rfl (asr (lr _) rfl (asr (lr _) rfl (sq_nil (aw_seq (aw_region ?_))))))
           refine sq_ev rfl (ev_load_agg (lr _) rfl ty27 rfl) ?_
           refine sq_ev rfl (ev_call en22 (lr _) (ch_val hs hk hLc) ⟨lr _, trivial⟩) ?_
           refine sq_ev rfl (ev_mv (v := .tup _) (lr _)) ?_
           refine xtr rfl (lr _) rfl ?_
           refine xtr rfl (lr _) rfl (ass rfl (lr _) (asr (lr _) rfl (sq_nil (aw_seq (aw_seq (aw_region ?_))))))
           refine mvr (lr _) rfl (sq_ev rfl (ev_neq (lr _) (lr _)) ?_)
           refine mvr (lr _) rfl (ymr rfl rfl (lr _) rfl (lr _) (sq_yes rfl rfl (lr _) rfl (ev_neq (lr _) (lr _)) ?_))
           refine pf rfl (lr _) (lr _) (mvr (lr _) rfl ?_)
           refine ysl rfl rfl (lr _) rfl (lr _) ?_
           refine sq_yes rfl rfl (lr _) rfl (ev_len_map sl30 (lr _)) ?_
           refine sq_yes rfl rfl (lr _) rfl (ev_gtr (lr _) (lr _)) ?_
           refine pf rfl (lr _) (lr _) (sq_nil ?_)
           refine aw_cond (lr _) (fun c_116 => ?_) (fun c_116 => ?_)
           ·
            have c_116' := of_decide_eq_true c_116
            exfalso; omega
           ·
            have c_116' := of_decide_eq_false c_116
            refine aw_skip (aw_seq (aw_region ?_))
            refine sq_ev rfl (ev_load_agg (lr _) rfl ty27 rfl) ?_
            refine mvr (lr _) rfl (sq_ev rfl (ev_call en39 (lr _) (rwindow_pure p k hk3) ⟨lr _, lr _, trivial⟩) ?_)
            refine sq_alloc rfl z23 ?_
            refine sq_store rfl (lr _) (lr _) rfl rfl ty23 rfl rfl ?_
            refine sq_nil (aw_seq ?_)
            refine aw_drawc [3, 15] [16] _ mo (by kernel_rfl) (HSub.refl _) ?_
            refine dc_ev rfl (ev_load_agg (lr _) rfl ty27 rfl) ?_
            refine dc_ev rfl (ev_mv (v := .raw _) (lr _)) ?_
            refine dc_ev rfl (ev_mv (v := .raw _) (lr _)) ?_
            refine dc_fresh (ob := .pre ((moreP p n m).scenes.map sc).flatten) (v := .agg (planAC (moreP p n m) (.mslp 2 0 (p.scenes.map sc).length))) rfl rfl (fresh_call (first := []) (cap := []) (args := [plan p, I n, I m]) (k := 2) rfl en56 (lr _) ⟨(lr _), (lr _), (lr _), trivial⟩ (by simp [AV.pureL, AV.pureB, AV.pureE, pureE_map]) (pureL_row _) rfl (rMoreX_call hn (by omega) (by omega) (by omega)) ren_plan) ?_
            refine dc_ev rfl (ev_mv (v := .raw _) (lr _)) ?_
            refine dc_ev rfl (ev_fieldAddr fo23_0 (lr _)) ?_
            refine dc_ev rfl (ev_load (lr _) rfl ty3 rfl) ?_
            refine dc_ev rfl (ev_mv (v := .raw _) (lr _)) ?_
            refine dc_ev rfl (ev_sub (lr _) (lr _) (wr (by omega) (by omega))) ?_
            refine dc_ev rfl (ev_fieldAddr fo23_1 (lr _)) ?_
            refine dc_ev rfl (ev_load (lr _) rfl ty3 rfl) ?_
            refine dc_ev rfl (ev_mv (v := .raw _) (lr _)) ?_
            refine dc_ev rfl (ev_add (lr _) (lr _) (wr (by omega) (by omega))) ?_
            refine dc_ev rfl (ev_call en41 (lr _) (rspan_pure _ _) ⟨lr _, lr _, trivial⟩) ?_
            refine dc_ev rfl (ev_narrow hk3 (lr _) ⟨(lr _), (lr _), (lr _), trivial⟩) ?_
            refine dc_alloc rfl rfl z27 ?_
            refine dc_eff rfl rfl (eff_store rfl (lr _) (lr _) rfl rfl ty27 rfl rfl) (by apply HL.sub; repeat' (first | exact HL.nil _ | apply HL.same | apply HL.tok)) ?_
            refine dc_nil (aw_seq ?_)
            try dsimp only [List.append, List.set, List.length, List.take, List.drop, List.cons_append, List.nil_append, List.append_nil, Nat.zero_add, Nat.add_zero]
            refine aw_open (j := 2) (k := 3) (f := 7) rfl rfl rfl fun cap m5 hcap => ?_
            try dsimp only [List.append, List.set, List.length, List.take, List.drop, List.cons_append, List.nil_append, List.append_nil, Nat.zero_add, Nat.add_zero]
            have hflx : ((moreP p n m).scenes.map sc).flatten.length = (moreP p n m).scenes.length * 5 := flat_len _
            rw [moreP_len] at hflx
            have hble1 : Nat.ble (n * 5 + 1 + 1) (((moreP p n m).scenes.map sc).flatten ++ List.replicate m5 AV.any).length = true := Nat.ble_eq_true_of_le (by rw [List.length_append, hflx, List.length_replicate]; omega)
            refine aw_draw 13 mo (by kernel_rfl) ?_
            refine dr_ev rfl (ev_fieldAddr fo27_3 (lr _)) ?_
            refine dr_ev rfl (ev_load (lr _) rfl ty25 rfl) ?_
            refine dr_ev rfl (ev_mv (v := .raw _) (lr _)) ?_
            refine dr_ev rfl (ev_fieldAddr fo27_3 (lr _)) ?_
            refine dr_ev rfl (ev_load (lr _) rfl ty25 rfl) ?_
            refine dr_ev rfl (ev_mv (v := .raw _) (lr _)) ?_
            refine dr_ev rfl (ev_less (v' := .ptr 2 (n * 5)) (ev_index_msl sl25 (lr _) (lr _) rfl (by simp; omega)) (Less.eq (congrArg (AV.ptr 2) (Nat.zero_add (n * 5))))) ?_
            refine dr_ev rfl (ev_fieldAddr fo84_1 (lr _)) ?_
            refine dr_ev rfl (ev_load (lr _) rfl ty3 (row_least hn m _)) ?_
            refine dr_ev rfl (ev_mv (v := .raw _) (lr _)) ?_
            refine dr_ev rfl (ev_sub (lr _) (lr _) (wr (by omega) (by omega))) ?_
            refine dr_ev rfl (ev_less (v' := .ptr 2 (n * 5)) (ev_index_msl sl25 (lr _) (lr _) rfl (by simp; omega)) (Less.eq (congrArg (AV.ptr 2) (Nat.zero_add (n * 5))))) ?_
            refine dr_ev rfl (ev_fieldAddr fo84_1 (lr _)) ?_
            refine dr_end ?_
            refine sq_store rfl (lr _) (lr _) rfl rfl ty3 rfl hble1 ?_
            refine sq_nil (aw_seq (aw_seq ?_))
            try dsimp only [List.append, List.set, List.length, List.take, List.drop, List.cons_append, List.nil_append, List.append_nil, Nat.zero_add, Nat.add_zero]
            refine aw_sub (sub_freeze (j := 2) (n := (p.scenes.map sc).length) (cap := cap) (sz := 5) (es := (wideP p n m y k a b).scenes.map sc) (rest := List.replicate m5 .any) (sl' := [(1, nats l), (2, I n), (8, .ptr 0 0), (17, B (canP p l)), (19, natss L), (22, .ptr 3 0)]) (congrArg (fun l => some (AObj.cells l)) (wide_row hn m y k a b _)) (by simp [wideP_len]) (fun q hq => by obtain ⟨x, _, rfl⟩ := List.mem_map.1 hq; rfl) (fun q hq => by simp only [List.mem_cons, List.not_mem_nil, or_false] at hq; rcases hq with rfl | rfl | rfl | rfl | rfl | rfl <;> exact Fz.same _) (FzH.same _ (by decide) (FzH.same _ (by decide) (FzH.dead _ rfl (FzH.cells (by decide) (FzL.cons (Fz.same _) (FzL.cons (Fz.same _) (FzL.cons (Fz.same _) (FzL.cons (Fz.same _) (FzL.cons (Fz.same _) (FzL.cons (Fz.same _) (FzL.cons (Fz.same _) (FzL.cons Fz.frozen FzL.nil)))))))) (FzH.nil _)))))) ?_
            try dsimp only [List.append, List.set, List.length, List.take, List.drop, List.cons_append, List.nil_append, List.append_nil, Nat.zero_add, Nat.add_zero]
            refine aw_region ?_
            refine sq_ev rfl (ev_load_agg (lr _) rfl ty27 rfl) ?_
            refine sq_ev rfl (ev_call en24 (lr _) (h24x) ⟨lr _, trivial⟩) ?_
            refine sq_nil ?_
            refine aw_join [] [1, 2, 8, 17, 19] ?_ ?_
            ·
             refine aw_cond (lr _) (fun c_149 => ?_) (fun c_149 => ?_)
             ·
              obtain ⟨hx1, hx2⟩ := h55x c_149
              refine aw_seq (aw_region ?_)
              refine sq_ev rfl (ev_load_agg (lr _) rfl ty27 rfl) ?_
              refine mvs rfl (lr _) (sq_ev rfl (ev_call en55 (lr _) (hx1) ⟨lr _, lr _, trivial⟩) ?_)
              refine sq_ev rfl (ev_mv (v := .tup _) (lr _)) ?_
              refine xtr rfl (lr _) rfl (xtr rfl (lr _) rfl (asr (lr _) rfl (asr (lr _) rfl (sq_nil (aw_seq (aw_region ?_))))))
              refine mvr (lr _) rfl (sq_ev rfl (ev_neq (lr _) (lr _)) ?_)
              refine mvr (lr _) rfl (ymr rfl rfl (lr _) rfl (lr _) (ymr rfl rfl (lr _) rfl (lr _) ?_))
              refine sq_split 160 (lr _) (fun g12_4 => ?_) (fun g12_4 => ?_)
              ·
               obtain rfl := hx2 g12_4
               refine sq_yes rfl rfl (less_b g12_4) rfl (ev_mv (v := .raw _) (lr _)) ?_
               refine sq_yes rfl rfl (less_b g12_4) rfl (ev_not (lr _)) ?_
               refine sq_yes rfl rfl (lr _) rfl (ev_pickT (v := .raw _) (less_b g12_4) (lr _)) ?_
               refine pf rfl (lr _) (lr _) (sq_nil ?_)
               refine aw_false (lr _) ?_
               refine aw_skip ?_
               exact ⟨⟨lr _, lr _, lr _, lr _, lr _, trivial⟩, rfl, rfl⟩
              ·
               refine sq_no rfl rfl (less_b g12_4) rfl rfl ?_
               refine sq_no rfl rfl (less_b g12_4) rfl rfl ?_
               refine sq_yes rfl rfl (lr _) rfl (ev_pickF (v := .raw _) (less_b g12_4) (lr _)) ?_
               refine pf rfl (lr _) (lr _) (sq_nil ?_)
               refine aw_false (lr _) ?_
               refine aw_skip ?_
               exact ⟨⟨lr _, lr _, lr _, lr _, lr _, trivial⟩, rfl, rfl⟩
             ·
              refine aw_skip ?_
              exact ⟨⟨lr _, lr _, lr _, lr _, lr _, trivial⟩, rfl, rfl⟩
            ·
             dsimp only [keepS, St.put, sget, slotsOf, List.map_cons, List.map_nil, List.cons_append, List.nil_append, List.length_cons, List.length_nil, Nat.reduceBEq, Nat.reduceAdd, cond_true, cond_false]
             refine aw_seq (aw_region ?_)
             refine sq_ev rfl (ev_load_agg (lr _) rfl ty27 rfl) ?_
             refine mvr (lr _) rfl ?_
             refine sq_call (first := []) (cap := []) (args := [plan p, I n, I 0]) rfl en56 (lr _) ⟨(lr _), (lr _), (lr _), trivial⟩ (rMore4_call hn (by omega) (by omega) (by omega)) ?_ (by rintro v H' ⟨_, _, h, _⟩; cases h)
             rintro _ _ ⟨cap2, hcap2, h, rfl⟩; cases h
             rw [more_zero hn]
             refine sq_alloc rfl z27 ?_
             refine sq_store rfl (lr _) (lr _) rfl rfl ty27 rfl rfl ?_
             refine sq_nil (aw_seq ?_)
             try dsimp only [List.append, List.set, List.length, List.take, List.drop, List.cons_append, List.nil_append, List.append_nil, Nat.zero_add, Nat.add_zero]
             have hfly := flat_len p.scenes
             have hble2 : Nat.ble (n * 5 + 3 + 1) ((p.scenes.map sc).flatten ++ List.replicate ((cap2 - (p.scenes.map sc).length) * 5) AV.any).length = true := Nat.ble_eq_true_of_le (by rw [List.length_append, hfly, List.length_replicate]; omega)
             refine aw_region ?_
             refine sq_ev rfl (ev_fieldAddr fo27_3 (lr _)) ?_
             refine sq_ev rfl (ev_load (lr _) rfl ty25 rfl) ?_
             refine mvr (lr _) rfl (sq_ev rfl (ev_less (v' := .ptr 6 (n * 5)) (ev_index_msl sl25 (lr _) (lr _) rfl (by simp; omega)) (Less.eq (congrArg (AV.ptr 6) (Nat.zero_add (n * 5))))) ?_)
             refine sq_ev rfl (ev_fieldAddr fo84_3 (lr _)) ?_
             refine sq_store rfl (lr _) (lr _) rfl rfl ty4 rfl hble2 ?_
             refine sq_nil (aw_seq (aw_seq ?_))
             try dsimp only [List.append, List.set, List.length, List.take, List.drop, List.cons_append, List.nil_append, List.append_nil, Nat.zero_add, Nat.add_zero]
             refine aw_sub (sub_freeze (j := 6) (n := (p.scenes.map sc).length) (cap := cap2) (sz := 5) (es := (looseP p n).scenes.map sc) (rest := List.replicate ((cap2 - (p.scenes.map sc).length) * 5) .any) (sl' := [(19, natss L), (25, .ptr 7 0)]) (congrArg (fun l => some (AObj.cells l)) (loose_row hn _)) (by simp [looseP_len]) (fun q hq => by obtain ⟨x, _, rfl⟩ := List.mem_map.1 hq; rfl) (fun q hq => by simp only [List.mem_cons, List.not_mem_nil, or_false] at hq; rcases hq with rfl | rfl <;> exact Fz.same _) (FzH.same _ (by decide) (FzH.same _ (by decide) (FzH.same _ (by decide) (FzH.same _ (by decide) (FzH.cells (by decide) (FzL.cons (Fz.same _) (FzL.cons (Fz.same _) (FzL.cons (Fz.same _) (FzL.cons (Fz.same _) (FzL.cons (Fz.same _) (FzL.cons (Fz.same _) (FzL.cons (Fz.same _) (FzL.cons Fz.frozen FzL.nil)))))))) (FzH.cells (by decide) (FzL.cons (Fz.same _) (FzL.cons (Fz.same _) (FzL.cons (Fz.same _) (FzL.cons (Fz.same _) (FzL.cons (Fz.same _) (FzL.cons (Fz.same _) (FzL.cons (Fz.same _) (FzL.cons Fz.frozen FzL.nil)))))))) (FzH.dead _ rfl (FzH.cells (by decide) (FzL.cons (Fz.same _) (FzL.cons (Fz.same _) (FzL.cons (Fz.same _) (FzL.cons (Fz.same _) (FzL.cons (Fz.same _) (FzL.cons (Fz.same _) (FzL.cons (Fz.same _) (FzL.cons Fz.frozen FzL.nil)))))))) (FzH.nil _)))))))))) ?_
             try dsimp only [List.append, List.set, List.length, List.take, List.drop, List.cons_append, List.nil_append, List.append_nil, Nat.zero_add, Nat.add_zero]
             refine aw_region ?_
             refine sq_ev rfl (ev_load_agg (lr _) rfl ty27 rfl) ?_
             refine sq_ev rfl (ev_call en24 (lr _) (h24y) ⟨lr _, trivial⟩) ?_
             refine sq_ev rfl (ev_not (lr _)) ?_
             refine sq_nil ?_
             refine aw_cond (lr _) (fun c_175 => ?_) (fun c_175 => ?_)
             ·
              refine aw_seq (aw_region ?_)
              refine sq_ev rfl (ev_call en21 (lr _) (known_pure) trivial) ?_
              refine asr (lr _) rfl (sq_nil (aw_ret ?_))
              exact retQ_pure (v := .raw _) rfl rfl (lr _)
             ·
              have hpy : py = true := by simpa using c_175
              obtain ⟨hy1, hy2, hy3⟩ := h22y hpy
              refine aw_skip (aw_seq (aw_region ?_))
              refine sq_ev rfl (ev_load_agg (lr _) rfl ty27 rfl) ?_
              refine sq_ev rfl (ev_call en22 (lr _) (hy1) ⟨lr _, trivial⟩) ?_
              refine sq_ev rfl (ev_mv (v := .tup _) (lr _)) ?_
              refine xtr rfl (lr _) rfl ?_
              refine xtr rfl (lr _) rfl (ass rfl (lr _) (asr (lr _) rfl (sq_nil (aw_seq (aw_seq (aw_region ?_))))))
              refine mvr (lr _) rfl (sq_ev rfl (ev_neq (lr _) (lr _)) ?_)
              refine mvr (lr _) rfl ?_
              refine ysl rfl rfl (lr _) rfl (lr _) ?_
              refine sq_yes rfl rfl (lr _) rfl (ev_len_map sl30 (lr _)) ?_
              refine sq_yes rfl rfl (lr _) rfl (ev_gtr (lr _) (lr _)) ?_
              refine pf rfl (lr _) (lr _) (sq_nil ?_)
              refine aw_cond (lr _) (fun c_188 => ?_) (fun c_188 => ?_)
              ·
               have c_188' := of_decide_eq_true c_188
               exfalso; omega
              ·
               have c_188' := of_decide_eq_false c_188
               refine aw_skip (aw_seq (aw_seq (aw_region ?_)))
               refine asr (lr _) rfl (sq_nil (aw_block ?_))
               refine aw_loopk (ι := { j : Nat // j ≤ L.length }) [19, 26] (fun j => [(28, I j.1)]) (fun H j => H) (fun j => L.length - j.1) (⟨0, Nat.zero_le _⟩) ⟨lr _, lr _, lr _, trivial⟩ rfl ?_
               rintro ⟨j, hj0⟩
               dsimp only [keepS, St.put, sget, slotsOf, List.map_cons, List.map_nil, List.cons_append, List.nil_append, List.length_cons, List.length_nil, Nat.reduceBEq, Nat.reduceAdd, cond_true, cond_false]
               refine aw_seq (aw_seq (aw_region ?_))
               refine mvr (lr _) rfl (mvs rfl (lr _) (sq_ev rfl (ev_len_map sl30 (lr _)) ?_))
               refine sq_ev rfl (ev_lss (lr _) (lr _)) ?_
               refine sq_nil ?_
               refine aw_cond (lr _) (fun c_192 => ?_) (fun c_192 => ?_)
               ·
                have c_192' := of_decide_eq_true c_192
                have hjL : j < L.length := by omega
                refine aw_skip (aw_seq (aw_block (aw_seq (aw_region ?_))))
                refine mvs rfl (lr _) (mvs rfl (lr _) (mvr (lr _) rfl (sq_ev rfl (ev_index_map sl30 (lr _) (lr _) rfl (by omega)) ?_)))
                refine sq_ev rfl (ev_load_i (lr _) ty34 rfl) ?_
                refine sq_ev rfl (ev_call en57 (lr _) ((hy3 j hjL)) ⟨lr _, lr _, trivial⟩) ?_
                refine sq_ev rfl (ev_not (lr _)) ?_
                refine sq_nil ?_
                refine aw_false (lr _) ?_
                refine aw_skip (aw_region ?_)
                refine mvr (lr _) rfl (sq_ev rfl (ev_add (lr _) (lr _) (wr (by omega) (by omega))) ?_)
                refine asr (lr _) rfl (sq_nil ?_)
                exact ⟨⟨j + 1, by omega⟩, by simp only; omega, Sub.slots ⟨lr _, lr _, lr _, trivial⟩⟩
               ·
                have c_192' := of_decide_eq_false c_192
                refine aw_exit (aw_seq (aw_region ?_))
                refine sq_ev rfl (ev_call en21 (lr _) (known_pure) trivial) ?_
                refine asr (lr _) rfl (sq_nil (aw_ret ?_))
                exact retQ_pure (v := .raw _) rfl rfl (lr _)
theorem least_bd {p : Pl} (ok : PlOK p = true) {n : Nat} (hn : n < p.scenes.length) : 0 ≤ (scn p n).least ∧ (scn p n).least ≤ 240 := by
  simp only [PlOK, wnd, inn, Bool.and_eq_true, decide_eq_true_eq] at ok
  have := ok.2.1 n hn
  simp only [scBad, inn, Bool.or_eq_false_iff, Bool.not_eq_false', Bool.and_eq_true, decide_eq_true_eq] at this
  rw [scn_eq hn]; omega
/-- **NightMore returns true.** -/
theorem law11 (p : Pl) (l : List Int) (n : Int) (_ : -9223372036854775808 ≤ n) (_ : n ≤ 9223372036854775807) (m : Int) (_ : -9223372036854775808 ≤ m) (_ : m ≤ 9223372036854775807) (y : Int) (_ : -9223372036854775808 ≤ y) (_ : y ≤ 9223372036854775807) (k : Int) (_ : -9223372036854775808 ≤ k) (_ : k ≤ 9223372036854775807)
    (a : Int) (_ : -9223372036854775808 ≤ a) (_ : a ≤ 9223372036854775807) (b : Int) (_ : -9223372036854775808 ≤ b) (_ : b ≤ 9223372036854775807) : APure Tryz.prog 11 [plan p, ints l, I n, I m, I y, I k, I a, I b] (B true) := by
  by_cases hs : p.scenes.length ≤ 12
  · by_cases hl : l.length ≤ 12
    · cases hk : PlOK p with
      | false => exact law11_bad p l n m y k a b hs hl hk
      | true =>
        cases hc : (Ris p l && isCh p l) with
        | false => exact law11_cho p l n m y k a b hs hl hk hc
        | true =>
          have hch : chosenB p l = true := by rw [chosenB, Bool.and_assoc, hc, hk]; rfl
          obtain ⟨l', rfl, cv, gp, wp⟩ := chosen_up hch
          rw [ints_up]
          have hl' : l'.length ≤ 12 := by simpa [up] using hl
          cases hsc : isSc p n with
          | false => exact law11_sc p l' n m y k a b hs hl' hk hc hsc
          | true =>
            by_cases ho : 0 ≤ m ∧ m ≤ 240 ∧ 0 ≤ y ∧ y ≤ 240 ∧ 0 ≤ k ∧ k ≤ 2 ∧ 0 ≤ a ∧ a ≤ 30 ∧ 0 ≤ b ∧ b ≤ 30
            · obtain ⟨i, rfl⟩ : ∃ i : Nat, n = (i : Int) := ⟨n.toNat, by simp only [isSc, inn, Bool.and_eq_true, decide_eq_true_eq] at hsc; omega⟩
              have hn : i < p.scenes.length := by simp only [isSc, inn, Bool.and_eq_true, decide_eq_true_eq] at hsc; omega
              obtain ⟨r, rfl⟩ : ∃ r : Nat, k = (r : Int) := ⟨k.toNat, by omega⟩
              have hr3 : r < 3 := by omega
              have hmo : 0 ≤ p.scenes[i].most ∧ p.scenes[i].most ≤ 240 := by
                have h1 := most_ok hk hn; have h2 := gp.most hn
                rw [scn_eq hn] at h1 h2; omega
              refine law11_main p l' i m y r a b hs hl' hk hc hsc hn (by omega) (by omega) hr3 (by omega) (by omega) hmo (least_bd hk hn) (win_bd hk hr3) hch (choicesC p) rfl (choicesC_64 hk) (PlOK (wideP p i m y r a b)) (PlOK (looseP p i)) (canP (wideP p i m y r a b) l')
                (pl_val (by rw [wideP_len]; omega) rfl) (fun hpx => ⟨cn_yes (by rw [wideP_len]; exact hs) hl' (by rw [chosenB, Bool.and_assoc, hpx, wide_ch hn m y r a b hc]; rfl), fun hcan => ?_⟩) (pl_val (by rw [looseP_len]; omega) rfl) (choicesC (looseP p i))
                fun hpy => ⟨ch_val (by rw [looseP_len]; exact hs) hpy rfl, choicesC_64 hpy, fun j hj => list_val (by have := choicesC_64 hpy; omega) (fun x hx => by have := in_len hpy hx; omega) (by have := in_len hk (List.getElem_mem hj); omega) (decide_eq_true (loose_all hk hn hpy (List.getElem_mem hj)))⟩
              rw [canP_can wp cv] at hcan
              obtain ⟨cq, hq⟩ := wide_can hk hn (x := m) (y := y) (by omega) (by omega) hr3 (a := a) (b := b) (by omega) (by omega) hpx cv hcan
              rw [canP_can (gp_of_ok hpx).2 cq]; exact hq
            · exact law11_out p l' n m y k a b hs hl' hk hc hsc ho
    · exact law11_slim p l n m y k a b hs hl
  · exact law11_long p l n m y k a b hs
end Go.Proofs.YtjghdbdiejaacaaGreatDoor
