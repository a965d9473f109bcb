/-
  What a plan is, and what is computed of it, plainly, with no program in sight. Conditions: none.
-/
import Derived.Test.YtjghdbdiejaacaaGreatDoorLogicD
import Derived.Lib.ItoaNum
set_option linter.all false
namespace Ni

structure Sc where
  part : Int
  least : Int
  most : Int
  loose : Bool
  wants : Int
  deriving DecidableEq, Inhabited

structure Pl where
  beg : Int
  s0l : Int
  s0h : Int
  s1l : Int
  s1h : Int
  dl : Int
  dh : Int
  scenes : List Sc
  deriving DecidableEq, Inhabited

def inn (n lo hi : Int) : Bool := decide (lo ≤ n) && decide (n ≤ hi)
def wnd (lo hi : Int) : Bool := inn lo 0 900 && inn hi lo 900 && decide (hi - lo ≤ 30)

/-- what is wrong with scene i -/
def scBad (l : List Sc) (i : Nat) (h : i < l.length) : Bool :=
  !inn l[i].part 0 2 || (decide (0 < i) && decide (l[i].part < (l[i - 1]'(by omega)).part)) || !inn l[i].least 1 240 || !inn l[i].most l[i].least 240 || !inn l[i].wants (-1) (l.length - 1) || decide (l[i].wants = i)

def loosies (l : List Sc) : Nat := l.countP (·.loose)

def ScOK (l : List Sc) : Prop := (∀ i, (h : i < l.length) → scBad l i h = false) ∧ loosies l ≤ 6
instance (l : List Sc) : Decidable (ScOK l) := inferInstanceAs (Decidable (_ ∧ _))

theorem scOK_bad {l : List Sc} {i : Nat} (h : i < l.length) (hb : scBad l i h = true) : decide (ScOK l) = false := by
  simp only [decide_eq_false_iff_not]
  intro hk
  have := hk.1 i h
  rw [hb] at this; cases this

theorem scOK_all {l : List Sc} (h : ∀ i, (h : i < l.length) → scBad l i h = false) : decide (ScOK l) = decide (loosies l ≤ 6) := by
  simp only [decide_eq_decide]
  exact ⟨fun k => k.2, fun k => ⟨h, k⟩⟩

theorem scOK_end {l : List Sc} {k : Nat} (hk : k ≤ l.length) (hn : ¬ (k : Int) < l.length) (h : ∀ i, (h : i < l.length) → i < k → scBad l i h = false) :
    decide ((loosies (l.take k) : Int) ≤ 6) = decide (ScOK l) := by
  have hk' : k = l.length := by omega
  subst hk'
  rw [scOK_all (fun i g => h i g g), List.take_length]
  simp only [decide_eq_decide]; omega

theorem loosies_take {l : List Sc} {k : Nat} (h : k < l.length) : loosies (l.take (k + 1)) = loosies (l.take k) + (if l[k].loose = true then 1 else 0) := by
  unfold loosies
  rw [List.take_succ_eq_append_getElem h, List.countP_append]
  simp [List.countP_cons]

theorem loosies_le (l : List Sc) : loosies l ≤ l.length := List.countP_le_length

/-- nothing is wrong with any of n things -/
def okAll (n : Nat) (bad : (i : Nat) → i < n → Bool) : Bool := decide (∀ i, (h : i < n) → bad i h = false)
theorem okAll_bad {n : Nat} {bad : (i : Nat) → i < n → Bool} {i : Nat} (h : i < n) (hb : bad i h = true) : okAll n bad = false := by
  simp only [okAll, decide_eq_false_iff_not]
  intro hk
  have := hk i h
  rw [hb] at this; cases this
theorem okAll_end {n : Nat} {bad : (i : Nat) → i < n → Bool} {k : Nat} (_hk : k ≤ n) (hn : ¬ (k : Int) < n) (h : ∀ i, (h : i < n) → i < k → bad i h = false) : okAll n bad = true := by
  simp only [okAll, decide_eq_true_eq]
  exact fun i hi => h i hi (by omega)
theorem okAll_iff {n : Nat} {bad : (i : Nat) → i < n → Bool} : okAll n bad = true ↔ ∀ i, (h : i < n) → bad i h = false := by simp [okAll]

def PlOK (p : Pl) : Bool := inn p.beg 0 900 && wnd p.s0l p.s0h && wnd p.s1l p.s1h && wnd p.dl p.dh && inn p.scenes.length 1 10 && decide (ScOK p.scenes)

/-! the reference's lists -/
def isSc (p : Pl) (n : Int) : Bool := inn n 0 (p.scenes.length - 1)
def risBad (p : Pl) (l : List Int) (i : Nat) (h : i < l.length) : Bool := !isSc p l[i] || (decide (0 < i) && decide (l[i] ≤ l[i - 1]'(by omega)))
def Ris (p : Pl) (l : List Int) : Bool := okAll l.length (risBad p l)
def has (l : List Int) (n : Int) : Bool := decide (n ∈ l)
def chBad (p : Pl) (l : List Int) (i : Nat) (h : i < p.scenes.length) : Bool :=
  (!has l i && !p.scenes[i].loose) || (has l i && decide (0 ≤ p.scenes[i].wants) && !has l p.scenes[i].wants)
def isCh (p : Pl) (l : List Int) : Bool := okAll p.scenes.length (chBad p l)

/-! sums and lists -/
def scn (p : Pl) (x : Nat) : Sc := p.scenes.getD x default
theorem scn_eq {p : Pl} {x : Nat} (h : x < p.scenes.length) : scn p x = p.scenes[x] := by simp [scn, List.getD_eq_getElem?_getD, h]
theorem scn_mem {p : Pl} {x : Nat} (h : x < p.scenes.length) : scn p x ∈ p.scenes := by rw [scn_eq h]; exact List.getElem_mem h

def ssum (f : Nat → Int) (c : Nat → Bool) (l : List Nat) : Int := ((l.filter c).map f).sum
/-- a plan whose numbers are small -/
structure GP (p : Pl) : Prop where
  len : p.scenes.length ≤ 16
  vals : ∀ x ∈ p.scenes, 0 ≤ x.least ∧ x.least ≤ 10000 ∧ 0 ≤ x.most ∧ x.most ≤ 10000
  beg : -10000 ≤ p.beg ∧ p.beg ≤ 10000
  s0l : 0 ≤ p.s0l ∧ p.s0l ≤ 10000
  s0h : 0 ≤ p.s0h ∧ p.s0h ≤ 10000
  s1l : 0 ≤ p.s1l ∧ p.s1l ≤ 10000
  s1h : 0 ≤ p.s1h ∧ p.s1h ≤ 10000
  dl : 0 ≤ p.dl ∧ p.dl ≤ 10000
  dh : 0 ≤ p.dh ∧ p.dh ≤ 10000
theorem GP.least {p : Pl} (g : GP p) {x : Nat} (h : x < p.scenes.length) : 0 ≤ (scn p x).least ∧ (scn p x).least ≤ 10000 := ⟨(g.vals _ (scn_mem h)).1, (g.vals _ (scn_mem h)).2.1⟩
theorem GP.most {p : Pl} (g : GP p) {x : Nat} (h : x < p.scenes.length) : 0 ≤ (scn p x).most ∧ (scn p x).most ≤ 10000 := (g.vals _ (scn_mem h)).2.2

/-- scenes of a plan -/
structure CV (p : Pl) (l : List Nat) : Prop where
  len : l.length ≤ 1000
  rng : ∀ x ∈ l, x < p.scenes.length

def inP (p : Pl) (part a b : Int) (x : Nat) : Bool := decide ((scn p x).part = part) && decide (a ≤ (x : Int)) && decide ((x : Int) ≤ b)
def lo (p : Pl) (l : List Nat) (part a b : Int) : Int := ssum (fun x => (scn p x).least) (inP p part a b) l
def hi (p : Pl) (l : List Nat) (part a b : Int) : Int := ssum (fun x => (scn p x).most) (inP p part a b) l

/-! rows of rows -/
def fm {α : Type} (n : Nat) (f : Nat → List α) : List α := (List.range n).flatMap f
theorem fm_succ {α : Type} (n : Nat) (f : Nat → List α) : fm (n + 1) f = fm n f ++ f n := by simp [fm, List.range_succ]
theorem fm_len {α : Type} {f : Nat → List α} {B : Nat} (h : ∀ i, (f i).length ≤ B) : ∀ n, (fm n f).length ≤ n * B
  | 0 => by simp [fm]
  | n + 1 => by
    have := fm_len h n
    have := h n
    rw [fm_succ, List.length_append, Nat.add_mul]; omega
/-! hours -/
def wid (a b : Int) : Nat := (b - a + 1).toNat
def hC (p : Pl) (l : List Nat) (a b : Int) (k : Nat) : List (Int × Int × Int) := if inn (p.dl + k - b) (lo p l 2 0 10) (hi p l 2 0 10) = true then [(a, b, p.dl + k)] else []
def hB (p : Pl) (l : List Nat) (a : Int) (j : Nat) : List (Int × Int × Int) := if inn (p.s1l + j - a) (lo p l 1 0 10) (hi p l 1 0 10) = true then fm (wid p.dl p.dh) (hC p l a (p.s1l + j)) else []
def hA (p : Pl) (l : List Nat) (i : Nat) : List (Int × Int × Int) := if inn (p.s0l + i - p.beg) (lo p l 0 0 10) (hi p l 0 0 10) = true then fm (wid p.s1l p.s1h) (hB p l (p.s0l + i)) else []
def hrs (p : Pl) (l : List Nat) : List (Int × Int × Int) := fm (wid p.s0l p.s0h) (hA p l)
def can (p : Pl) (l : List Nat) : Bool := decide (0 < (hrs p l).length)

/-! lists of scenes -/
def nxt (now : List Nat) : Nat := match now.getLast? with
  | none => 0
  | some x => x + 1
theorem nxt_app (now : List Nat) (x : Nat) : nxt (now ++ [x]) = x + 1 := by simp [nxt]
theorem nxt_le {now : List Nat} {n : Nat} (h : ∀ x ∈ now, x < n) : nxt now ≤ n := by
  unfold nxt
  split
  · omega
  · rename_i x hx; have := h x (List.mem_of_getLast? hx); omega

def lsts (n : Nat) : Nat → List Nat → List (List Nat)
  | 0, now => [now]
  | m + 1, now => fm (n - nxt now) fun i => lsts n m (now ++ [nxt now + i])

theorem fm_pow {α : Type} {f : Nat → List α} {d : Nat} (h : ∀ i, i < d → (f i).length ≤ 2 ^ (d - (i + 1))) : ∀ k, k ≤ d → (fm k f).length + 2 ^ (d - k) ≤ 2 ^ d
  | 0, _ => by simp [fm]
  | k + 1, hk => by
    have ih := fm_pow h k (by omega)
    have := h k (by omega)
    rw [fm_succ, List.length_append]
    have e : 2 ^ (d - k) = 2 ^ (d - (k + 1)) + 2 ^ (d - (k + 1)) := by
      rw [show d - k = d - (k + 1) + 1 by omega, Nat.pow_succ]; omega
    omega
theorem lsts_len (n : Nat) : ∀ (m : Nat) (now : List Nat), (lsts n m now).length ≤ 2 ^ (n - nxt now)
  | 0, now => by simp only [lsts, List.length_singleton]; exact Nat.one_le_two_pow
  | m + 1, now => by
    have := fm_pow (d := n - nxt now) (f := fun i => lsts n m (now ++ [nxt now + i])) (fun i hi => by
      have := lsts_len n m (now ++ [nxt now + i])
      rw [nxt_app] at this
      rwa [show n - (nxt now + i + 1) = n - nxt now - (i + 1) by omega] at this) (n - nxt now) (Nat.le_refl _)
    simp only [lsts]
    exact Nat.le_trans (Nat.le_add_right _ _) this
theorem lsts_all {n m : Nat} (now : List Nat) (hn : n ≤ 16) : (lsts n m now).length ≤ 65536 := by
  have h3 : 2 ^ (n - nxt now) ≤ 2 ^ 16 := Nat.pow_le_pow_right (by decide) (by omega)
  exact Nat.le_trans (lsts_len n m now) h3

end Ni

namespace Ni

theorem mem_fm {α : Type} {n : Nat} {f : Nat → List α} {a : α} : a ∈ fm n f ↔ ∃ i, i < n ∧ a ∈ f i := by simp [fm, List.mem_flatMap]
theorem lsts_mem {n : Nat} : ∀ {m : Nat} {now : List Nat}, (∀ x ∈ now, x < n) → ∀ l ∈ lsts n m now, l.length = now.length + m ∧ ∀ x ∈ l, x < n
  | 0, now, h, l, hl => by simp only [lsts, List.mem_singleton] at hl; subst hl; exact ⟨by omega, h⟩
  | m + 1, now, h, l, hl => by
    simp only [lsts] at hl
    obtain ⟨i, hi, hm⟩ := mem_fm.1 hl
    obtain ⟨h1, h2⟩ := lsts_mem (now := now ++ [nxt now + i]) (fun x hx => by
      rcases List.mem_append.1 hx with h' | h'
      · exact h x h'
      · simp at h'; omega) l hm
    exact ⟨by simp at h1; omega, h2⟩
theorem filter_take_succ {α : Type} (q : α → Bool) {L : List α} {j : Nat} (h : j < L.length) : (L.take (j + 1)).filter q = (L.take j).filter q ++ (if q L[j] = true then [L[j]] else []) := by
  rw [List.take_succ_eq_append_getElem h, List.filter_append]
  by_cases hq : q L[j] = true <;> simp [hq]

def up (l : List Nat) : List Int := l.map fun (x : Nat) => (x : Int)
def isC (p : Pl) (l : List Nat) : Bool := isCh p (up l)
def aL (p : Pl) (i : Nat) : List (List Nat) := lsts p.scenes.length (p.scenes.length - i) []
def aA (p : Pl) (i : Nat) : List (List Nat) := (aL p i).filter (isC p)
def allC (p : Pl) : List (List Nat) := fm (p.scenes.length + 1) (aA p)
def choicesC (p : Pl) : List (List Nat) := (allC p).filter (can p)
theorem aL_mem {p : Pl} (gp : GP p) {i : Nat} : ∀ l ∈ aL p i, CV p l := fun l hl => by
  obtain ⟨h1, h2⟩ := lsts_mem (by simp) l hl
  have := gp.len
  exact ⟨by simp at h1; omega, h2⟩
theorem aL_len {p : Pl} (gp : GP p) (i : Nat) : (aL p i).length ≤ 65536 := lsts_all [] gp.len
theorem aA_len {p : Pl} (gp : GP p) (i : Nat) : (aA p i).length ≤ 65536 := Nat.le_trans (List.length_filter_le _ _) (aL_len gp i)
theorem allC_mem {p : Pl} (gp : GP p) : ∀ l ∈ allC p, CV p l := fun l hl => by
  obtain ⟨i, _, h⟩ := mem_fm.1 hl
  exact aL_mem gp l (List.mem_filter.1 h).1
theorem aAs_len {p : Pl} (gp : GP p) {i : Nat} (h : i ≤ p.scenes.length + 1) : (fm i (aA p)).length ≤ 1114112 := by
  have := fm_len (aA_len gp) i
  have := gp.len
  omega
theorem allC_len {p : Pl} (gp : GP p) : (allC p).length ≤ 1114112 := aAs_len gp (Nat.le_refl _)
theorem ft_len {α : Type} (q : α → Bool) (L : List α) (j : Nat) : ((L.take j).filter q).length ≤ L.length := by
  have h1 := List.length_filter_le q (L.take j)
  have h2 := List.length_take_le' j L
  omega

def fixS (x : Sc) (n : Int) : Sc := { x with least := n, most := n }
def fixP (p : Pl) (k : Nat) (n : Int) : Pl := { p with scenes := p.scenes.set k (fixS (scn p k) n) }

/-! the first lengths -/
def goOn (p : Pl) (l : List Nat) (k : Nat) (n : Int) : Bool := decide (n < (scn p k).most) && !can (fixP p k n) l
def climb (p : Pl) (l : List Nat) (k : Nat) : Nat → Int → Int
  | 0, n => n
  | f + 1, n => if goOn p l k n = true then climb p l k f (n + 1) else n
def fuel (p : Pl) (k : Nat) (n : Int) : Nat := ((scn p k).most - n).toNat
def len1 (p : Pl) (l : List Nat) (k : Nat) : Int := climb p l k (fuel p k (scn p k).least) (scn p k).least
theorem climb_stop {p : Pl} {l : List Nat} {k : Nat} {n : Int} (h : goOn p l k n = false) (f : Nat) : climb p l k f n = n := by
  cases f with
  | zero => rfl
  | succ f => simp [climb, h]
theorem climb_go {p : Pl} {l : List Nat} {k : Nat} {n : Int} (h : goOn p l k n = true) : climb p l k (fuel p k n) n = climb p l k (fuel p k (n + 1)) (n + 1) := by
  have hn : n < (scn p k).most := by simp [goOn] at h; exact h.1
  have e : fuel p k n = fuel p k (n + 1) + 1 := by unfold fuel; omega
  rw [e]; simp [climb, h]
theorem climb_bd {p : Pl} {l : List Nat} {k : Nat} : ∀ (f : Nat) (n : Int), n ≤ climb p l k f n ∧ (climb p l k f n ≤ n ∨ climb p l k f n ≤ (scn p k).most)
  | 0, n => ⟨Int.le_refl _, .inl (Int.le_refl _)⟩
  | f + 1, n => by
    simp only [climb]
    split
    · rename_i h
      have hn : n < (scn p k).most := by simp [goOn] at h; exact h.1
      have := climb_bd f (p := p) (l := l) (k := k) (n + 1)
      omega
    · exact ⟨Int.le_refl _, .inl (Int.le_refl _)⟩
def pS (p : Pl) (l : List Nat) : Nat → Pl
  | 0 => p
  | i + 1 => fixP (pS p l i) (l.getD i 0) (len1 (pS p l i) l (l.getD i 0))
def oS (p : Pl) (l : List Nat) : Nat → List Int
  | 0 => []
  | i + 1 => oS p l i ++ [len1 (pS p l i) l (l.getD i 0)]
theorem oS_len (p : Pl) (l : List Nat) : ∀ i, (oS p l i).length = i
  | 0 => rfl
  | i + 1 => by simp [oS, oS_len p l i]
theorem fixP_len (p : Pl) (k : Nat) (n : Int) : (fixP p k n).scenes.length = p.scenes.length := by simp [fixP]
theorem fixP_gp {p : Pl} (gp : GP p) (k : Nat) {n : Int} (h : 0 ≤ n ∧ n ≤ 10000) : GP (fixP p k n) := by
  refine ⟨by rw [fixP_len]; exact gp.len, fun x hx => ?_, gp.beg, gp.s0l, gp.s0h, gp.s1l, gp.s1h, gp.dl, gp.dh⟩
  rcases List.mem_or_eq_of_mem_set hx with h1 | h1
  · exact gp.vals x h1
  · subst h1; exact ⟨h.1, h.2, h.1, h.2⟩
theorem fixP_cv {p : Pl} {l : List Nat} (cv : CV p l) (k : Nat) (n : Int) : CV (fixP p k n) l := ⟨cv.len, fun x hx => by rw [fixP_len]; exact cv.rng x hx⟩
theorem len1_bd {p : Pl} (gp : GP p) (l : List Nat) {k : Nat} (h : k < p.scenes.length) : 0 ≤ len1 p l k ∧ len1 p l k ≤ 10000 := by
  have h1 := gp.least h
  have h2 := gp.most h
  have := climb_bd (p := p) (l := l) (k := k) (fuel p k (scn p k).least) (scn p k).least
  unfold len1; omega
theorem pS_ok {p : Pl} {l : List Nat} (gp : GP p) (cv : CV p l) : ∀ i, i ≤ l.length → GP (pS p l i) ∧ CV (pS p l i) l
  | 0, _ => ⟨gp, cv⟩
  | i + 1, h => by
    obtain ⟨h1, h2⟩ := pS_ok gp cv i (by omega)
    have hk : l.getD i 0 < (pS p l i).scenes.length := by
      rw [List.getD_eq_getElem?_getD, List.getElem?_eq_getElem (by omega)]
      exact h2.rng _ (List.getElem_mem _)
    exact ⟨fixP_gp h1 _ (len1_bd h1 l hk), fixP_cv h2 _ _⟩
def firstL (p : Pl) (l : List Nat) : List Int := oS p l l.length

end Ni

namespace Ni

theorem isum_take {l : List Int} {k : Nat} (h : k < l.length) : (l.take (k + 1)).sum = (l.take k).sum + l[k] := by
  rw [List.take_succ_eq_append_getElem h, List.sum_append]; simp
theorem isum_bd : ∀ {l : List Int}, (∀ x ∈ l, 0 ≤ x ∧ x ≤ 10000) → 0 ≤ l.sum ∧ l.sum ≤ 10000 * l.length
  | [], _ => by simp
  | x :: l, h => by
    have := isum_bd (l := l) (fun y hy => h y (List.mem_cons_of_mem _ hy))
    have := h x (by simp)
    simp only [List.sum_cons, List.length_cons]; omega
theorem isum_bd_take {l : List Int} (h : ∀ x ∈ l, 0 ≤ x ∧ x ≤ 10000) (hl : l.length ≤ 1000000) (k : Nat) : 0 ≤ (l.take k).sum ∧ (l.take k).sum ≤ 10000000000 := by
  have := isum_bd (l := l.take k) (fun x hx => h x (List.mem_of_mem_take hx))
  have := List.length_take_le' k l
  omega

def leasts (p : Pl) (xs : List Nat) : List Int := xs.map fun x => (scn p x).least
def mosts (p : Pl) (xs : List Nat) : List Int := xs.map fun x => (scn p x).most
theorem map_take_succ {α β : Type} (f : α → β) {l : List α} {k : Nat} (h : k < l.length) : (l.take (k + 1)).map f = (l.take k).map f ++ [f l[k]] := by
  rw [List.take_succ_eq_append_getElem h, List.map_append]; rfl
def lsum (p : Pl) (xs : List Nat) : Int := (leasts p xs).sum
def hsum (p : Pl) (xs : List Nat) : Int := (mosts p xs).sum
theorem leasts_mem {p : Pl} {xs : List Nat} (gp : GP p) (cv : CV p xs) : ∀ x ∈ leasts p xs, 0 ≤ x ∧ x ≤ 10000 := fun x hx => by
  obtain ⟨y, hy, rfl⟩ := List.mem_map.1 hx; exact gp.least (cv.rng y hy)
theorem mosts_mem {p : Pl} {xs : List Nat} (gp : GP p) (cv : CV p xs) : ∀ x ∈ mosts p xs, 0 ≤ x ∧ x ≤ 10000 := fun x hx => by
  obtain ⟨y, hy, rfl⟩ := List.mem_map.1 hx; exact gp.most (cv.rng y hy)
theorem lsum_bd {p : Pl} {xs : List Nat} (gp : GP p) (cv : CV p xs) : 0 ≤ lsum p xs ∧ lsum p xs ≤ 10000000 := by
  have h1 := isum_bd (leasts_mem gp cv)
  have h2 := cv.len
  have h3 : (leasts p xs).length = xs.length := by simp [leasts]
  rw [h3] at h1
  unfold lsum; omega
theorem hsum_bd {p : Pl} {xs : List Nat} (gp : GP p) (cv : CV p xs) : 0 ≤ hsum p xs ∧ hsum p xs ≤ 10000000 := by
  have h1 := isum_bd (mosts_mem gp cv)
  have h2 := cv.len
  have h3 : (mosts p xs).length = xs.length := by simp [mosts]
  rw [h3] at h1
  unfold hsum; omega

/-- the scenes of a part -/
def inPart (p : Pl) (part : Int) (x : Nat) : Bool := decide ((scn p x).part = part)
def ofP (p : Pl) (l : List Nat) (part : Int) : List Nat := l.filter (inPart p part)
theorem ofP_cv {p : Pl} {l : List Nat} (cv : CV p l) (part : Int) : CV p (ofP p l part) :=
  ⟨Nat.le_trans (List.length_filter_le _ _) cv.len, fun x hx => cv.rng x (List.mem_filter.1 hx).1⟩

/-- the part's length, at least and at most -/
theorem lsum_of {p : Pl} {l : List Nat} (hp : p.scenes.length ≤ 10) (cv : CV p l) (part : Int) : lsum p (ofP p l part) = lo p l part 0 10 := by
  unfold lsum leasts lo ssum ofP
  congr 2
  refine List.filter_congr fun x hx => ?_
  have := cv.rng x hx
  unfold inPart inP
  have h1 : decide ((0 : Int) ≤ (x : Int)) = true := by simp
  have h2 : decide ((x : Int) ≤ 10) = true := by simp; omega
  rw [h1, h2]; simp
theorem hsum_of {p : Pl} {l : List Nat} (hp : p.scenes.length ≤ 10) (cv : CV p l) (part : Int) : hsum p (ofP p l part) = hi p l part 0 10 := by
  unfold hsum mosts hi ssum ofP
  congr 2
  refine List.filter_congr fun x hx => ?_
  have := cv.rng x hx
  unfold inPart inP
  have h1 : decide ((0 : Int) ≤ (x : Int)) = true := by simp
  have h2 : decide ((x : Int) ≤ 10) = true := by simp; omega
  rw [h1, h2]; simp

/-- windows -/
def wl (p : Pl) (k : Nat) : Int := if k = 0 then p.s0l else if k = 1 then p.s1l else p.dl
def wh (p : Pl) (k : Nat) : Int := if k = 0 then p.s0h else if k = 1 then p.s1h else p.dh

/-- how a part begins, by what comes before; the last one ends -/
def pl (p : Pl) (l : List Nat) (k : Nat) : Int := lsum p (ofP p l k)
def ph (p : Pl) (l : List Nat) (k : Nat) : Int := hsum p (ofP p l k)
def fw (p : Pl) (l : List Nat) : Nat → Int × Int
  | 0 => (p.beg, p.beg)
  | k + 1 => (max ((fw p l k).1 + pl p l k) (wl p k), min ((fw p l k).2 + ph p l k) (wh p k))
/-- whether a part fails, and how: 0: it does not -/
def flt (p : Pl) (l : List Nat) (k : Nat) : Int := if (fw p l k).2 + ph p l k < wl p k then 1 else if wh p k < (fw p l k).1 + pl p l k then 2 else 0
def ffail (p : Pl) (l : List Nat) : Option (Nat × Int) := if flt p l 0 ≠ 0 then some (0, flt p l 0) else if flt p l 1 ≠ 0 then some (1, flt p l 1) else if flt p l 2 ≠ 0 then some (2, flt p l 2) else none
theorem ffail_some {p : Pl} {l : List Nat} {k : Nat} (hk : k < 3) (h : ∀ j, j < k → flt p l j = 0) (hf : flt p l k ≠ 0) : ffail p l = some (k, flt p l k) := by
  unfold ffail
  rcases k with _ | _ | _ | k
  · rw [if_pos hf]
  · rw [if_neg (by simp [h 0 (by omega)]), if_pos hf]
  · rw [if_neg (by simp [h 0 (by omega)]), if_neg (by simp [h 1 (by omega)]), if_pos hf]
  · omega
theorem ffail_none {p : Pl} {l : List Nat} (h : ∀ j, j < 3 → flt p l j = 0) : ffail p l = none := by
  unfold ffail
  rw [if_neg (by simp [h 0 (by omega)]), if_neg (by simp [h 1 (by omega)]), if_neg (by simp [h 2 (by omega)])]
/-- when a part ends, by what comes later -/
def bw (p : Pl) (l : List Nat) : Nat → Int × Int
  | 0 => (wl p 2, wh p 2)
  | j + 1 => (max (wl p (1 - j)) ((bw p l j).1 - ph p l (2 - j)), min (wh p (1 - j)) ((bw p l j).2 - pl p l (2 - j)))

theorem win_bd {p : Pl} (gp : GP p) (k : Nat) : (0 ≤ wl p k ∧ wl p k ≤ 10000) ∧ (0 ≤ wh p k ∧ wh p k ≤ 10000) := by
  have := gp.s0l; have := gp.s0h; have := gp.s1l; have := gp.s1h; have := gp.dl; have := gp.dh
  unfold wl wh; constructor <;> (split; assumption; split <;> assumption)
theorem fw_bd {p : Pl} {l : List Nat} (gp : GP p) (cv : CV p l) : ∀ k, -10000 ≤ (fw p l k).1 ∧ (fw p l k).1 ≤ 10000000 * k + 10000 ∧ -10000 ≤ (fw p l k).2 ∧ (fw p l k).2 ≤ 10000
  | 0 => by have := gp.beg; simp [fw]; omega
  | k + 1 => by
    have ih := fw_bd gp cv k
    have h1 := lsum_bd gp (ofP_cv cv k)
    have h2 := hsum_bd gp (ofP_cv cv k)
    have h3 := win_bd gp k
    simp only [fw, pl, ph]; omega
theorem bw_bd {p : Pl} {l : List Nat} (gp : GP p) (cv : CV p l) : ∀ j, -10000000 * j ≤ (bw p l j).1 ∧ (bw p l j).1 ≤ 10000 ∧ -10000000 * j ≤ (bw p l j).2 ∧ (bw p l j).2 ≤ 10000
  | 0 => by have := win_bd gp 2; simp [bw]; omega
  | j + 1 => by
    have ih := bw_bd gp cv j
    have h1 := lsum_bd gp (ofP_cv cv ((2 - j : Nat) : Int))
    have h2 := hsum_bd gp (ofP_cv cv ((2 - j : Nat) : Int))
    have h3 := win_bd gp (1 - j)
    simp only [bw, pl, ph]; omega

end Ni

namespace Ni

theorem fm_filter {α : Type} (q : α → Bool) (n : Nat) (f : Nat → List α) : (fm n f).filter q = fm n fun i => (f i).filter q := by simp [fm, List.filter_flatMap]
theorem fm_more {α : Type} {f : Nat → List α} {d : Nat} : ∀ n, d ≤ n → (∀ i, d ≤ i → i < n → f i = []) → fm n f = fm d f
  | 0, h, _ => by have : d = 0 := by omega
                  subst this; rfl
  | n + 1, h, hf => by
    by_cases e : d = n + 1
    · rw [e]
    · rw [fm_succ, hf n (by omega) (by omega), List.append_nil]
      exact fm_more n (by omega) fun i h1 h2 => hf i h1 (by omega)
theorem fm_get {α : Type} {f : Nat → List α} {d : Nat} {i : Nat} {y : α} : ∀ n, d < n → (f d)[i]? = some y → (fm n f)[(fm d f).length + i]? = some y
  | 0, h, _ => by omega
  | n + 1, h, hy => by
    rw [fm_succ]
    have hi : i < (f d).length := (List.getElem?_eq_some_iff.1 hy).1
    by_cases e : d = n
    · subst e; rw [List.getElem?_append_right (by omega), Nat.add_sub_cancel_left]; exact hy
    · have ih := fm_get n (by omega) hy
      have hl := (List.getElem?_eq_some_iff.1 ih).1
      rw [List.getElem?_append_left hl]; exact ih

theorem lsts_nil {n : Nat} : ∀ (m : Nat) (now : List Nat), 0 < m → n < nxt now + m → lsts n m now = []
  | 0, _, h, _ => by omega
  | m + 1, now, _, h => by
    simp only [lsts]
    rw [fm_more (d := 0) _ (Nat.zero_le _)]; rfl
    intro i _ hi
    rcases Nat.eq_zero_or_pos m with h0 | h0
    · omega
    · exact lsts_nil m _ h0 (by rw [nxt_app]; omega)

def seg (p : Pl) (m : Nat) (now : List Nat) : List (List Nat) := (lsts p.scenes.length m now).filter (isC p)
theorem seg_zero (p : Pl) (now : List Nat) : seg p 0 now = if isC p now = true then [now] else [] := by
  unfold seg; simp only [lsts]
  by_cases h : isC p now = true <;> simp [h]
def segF (p : Pl) (m : Nat) (now : List Nat) (i : Nat) : List (List Nat) := seg p m (now ++ [nxt now + i])
theorem seg_succ (p : Pl) (m : Nat) (now : List Nat) : seg p (m + 1) now = fm (p.scenes.length - nxt now) (segF p m now) := by
  unfold seg; simp only [lsts]; rw [fm_filter]; rfl
theorem seg_cut {p : Pl} {m : Nat} {now : List Nat} {d : Nat} (h1 : d ≤ p.scenes.length - nxt now) (h2 : p.scenes.length < nxt now + d + (m + 1)) : seg p (m + 1) now = fm d (segF p m now) := by
  rw [seg_succ]
  refine fm_more _ h1 fun i h3 h4 => ?_
  unfold segF seg
  rcases Nat.eq_zero_or_pos m with h0 | h0
  · omega
  · rw [lsts_nil m _ h0 (by rw [nxt_app]; omega)]; rfl
theorem allC_seg (p : Pl) : allC p = fm (p.scenes.length + 1) fun i => seg p (p.scenes.length - i) [] := rfl
theorem mem_cv {p : Pl} {now : List Nat} (h : ∀ x ∈ now, x < p.scenes.length) (hl : now.length ≤ 1000) : CV p now := ⟨hl, h⟩
end Ni

namespace Ni

/-- a plan whose bounds are in order -/
structure WP (p : Pl) : Prop where
  len : p.scenes.length ≤ 10
  s0 : p.s0l ≤ p.s0h
  s1 : p.s1l ≤ p.s1h
  d : p.dl ≤ p.dh
  lm : ∀ x ∈ p.scenes, x.least ≤ x.most

theorem sum_le {α : Type} {f g : α → Int} : ∀ {l : List α}, (∀ x ∈ l, f x ≤ g x) → (l.map f).sum ≤ (l.map g).sum
  | [], _ => by simp
  | x :: l, h => by
    have := sum_le (l := l) (fun y hy => h y (List.mem_cons_of_mem _ hy))
    have := h x (by simp)
    simp only [List.map_cons, List.sum_cons]; omega
theorem lsum_le {p : Pl} {xs : List Nat} (wp : WP p) (cv : CV p xs) : lsum p xs ≤ hsum p xs :=
  sum_le fun x hx => wp.lm _ (scn_mem (cv.rng x hx))
theorem pl_le {p : Pl} {l : List Nat} (wp : WP p) (cv : CV p l) (k : Nat) : pl p l k ≤ ph p l k := lsum_le wp (ofP_cv cv k)
theorem pl_lo {p : Pl} {l : List Nat} (wp : WP p) (cv : CV p l) (k : Nat) : pl p l k = lo p l k 0 10 := lsum_of wp.len cv k
theorem ph_hi {p : Pl} {l : List Nat} (wp : WP p) (cv : CV p l) (k : Nat) : ph p l k = hi p l k 0 10 := hsum_of wp.len cv k

/-- hours that fit -/
structure Fit (p : Pl) (l : List Nat) (a b c : Int) : Prop where
  a1 : p.s0l ≤ a
  a2 : a ≤ p.s0h
  b1 : p.s1l ≤ b
  b2 : b ≤ p.s1h
  c1 : p.dl ≤ c
  c2 : c ≤ p.dh
  x1 : pl p l 0 ≤ a - p.beg
  x2 : a - p.beg ≤ ph p l 0
  y1 : pl p l 1 ≤ b - a
  y2 : b - a ≤ ph p l 1
  z1 : pl p l 2 ≤ c - b
  z2 : c - b ≤ ph p l 2

theorem mem_hrs {p : Pl} {l : List Nat} (wp : WP p) (cv : CV p l) {a b c : Int} : (a, b, c) ∈ hrs p l ↔ Fit p l a b c := by
  have e0 := pl_lo wp cv 0; have e1 := pl_lo wp cv 1; have e2 := pl_lo wp cv 2
  have f0 := ph_hi wp cv 0; have f1 := ph_hi wp cv 1; have f2 := ph_hi wp cv 2
  have e0 : pl p l 0 = lo p l 0 0 10 := e0
  have e1 : pl p l 1 = lo p l 1 0 10 := e1
  have e2 : pl p l 2 = lo p l 2 0 10 := e2
  have f0 : ph p l 0 = hi p l 0 0 10 := f0
  have f1 : ph p l 1 = hi p l 1 0 10 := f1
  have f2 : ph p l 2 = hi p l 2 0 10 := f2
  constructor
  · intro h
    obtain ⟨i, hi, h⟩ := mem_fm.1 h
    unfold hA at h
    split at h
    · rename_i g0
      obtain ⟨j, hj, h⟩ := mem_fm.1 h
      unfold hB at h
      split at h
      · rename_i g1
        obtain ⟨k, hk, h⟩ := mem_fm.1 h
        unfold hC at h
        split at h
        · rename_i g2
          simp only [List.mem_singleton, Prod.mk.injEq] at h
          obtain ⟨rfl, rfl, rfl⟩ := h
          simp only [inn, Bool.and_eq_true, decide_eq_true_eq] at g0 g1 g2
          unfold wid at hi hj hk
          exact ⟨by omega, by omega, by omega, by omega, by omega, by omega, by omega, by omega, by omega, by omega, by omega, by omega⟩
        · simp at h
      · simp at h
    · simp at h
  · intro h
    obtain ⟨h1, h2, h3, h4, h5, h6, h7, h8, h9, h10, h11, h12⟩ := h
    refine mem_fm.2 ⟨(a - p.s0l).toNat, by unfold wid; omega, ?_⟩
    have ea : p.s0l + ((a - p.s0l).toNat : Int) = a := by omega
    unfold hA; rw [ea, if_pos (by simp only [inn, Bool.and_eq_true, decide_eq_true_eq]; omega)]
    refine mem_fm.2 ⟨(b - p.s1l).toNat, by unfold wid; omega, ?_⟩
    have eb : p.s1l + ((b - p.s1l).toNat : Int) = b := by omega
    unfold hB; rw [eb, if_pos (by simp only [inn, Bool.and_eq_true, decide_eq_true_eq]; omega)]
    refine mem_fm.2 ⟨(c - p.dl).toNat, by unfold wid; omega, ?_⟩
    have ec : p.dl + ((c - p.dl).toNat : Int) = c := by omega
    unfold hC; rw [ec, if_pos (by simp only [inn, Bool.and_eq_true, decide_eq_true_eq]; omega)]
    simp

theorem can_fit {p : Pl} {l : List Nat} (wp : WP p) (cv : CV p l) : can p l = true ↔ ∃ a b c, Fit p l a b c := by
  unfold can
  rw [decide_eq_true_eq, List.length_pos_iff_exists_mem]
  constructor
  · rintro ⟨⟨a, b, c⟩, h⟩; exact ⟨a, b, c, (mem_hrs wp cv).1 h⟩
  · rintro ⟨a, b, c, h⟩; exact ⟨(a, b, c), (mem_hrs wp cv).2 h⟩

theorem pick {lo hi L H t : Int} (h1 : lo ≤ hi) (h2 : L ≤ H) (h3 : lo + L ≤ t) (h4 : t ≤ hi + H) : ∃ s, lo ≤ s ∧ s ≤ hi ∧ L ≤ t - s ∧ t - s ≤ H :=
  ⟨max lo (t - H), by omega, by omega, by omega, by omega⟩

theorem ffail_iff {p : Pl} {l : List Nat} : ffail p l = none ↔ flt p l 0 = 0 ∧ flt p l 1 = 0 ∧ flt p l 2 = 0 := by
  unfold ffail
  by_cases h0 : flt p l 0 = 0
  · by_cases h1 : flt p l 1 = 0
    · by_cases h2 : flt p l 2 = 0 <;> simp [h0, h1, h2]
    · simp [h0, h1]
  · simp [h0]
theorem flt_zero {p : Pl} {l : List Nat} {k : Nat} : flt p l k = 0 ↔ wl p k ≤ (fw p l k).2 + ph p l k ∧ (fw p l k).1 + pl p l k ≤ wh p k := by
  unfold flt
  split
  · constructor
    · intro h; cases h
    · intro h; omega
  · split
    · constructor
      · intro h; cases h
      · intro h; omega
    · constructor
      · intro _; omega
      · intro _; rfl
theorem win_le {p : Pl} (wp : WP p) (k : Nat) : wl p k ≤ wh p k := by
  unfold wl wh
  split
  · exact wp.s0
  · split
    · exact wp.s1
    · exact wp.d
theorem fw_le {p : Pl} {l : List Nat} (wp : WP p) (cv : CV p l) : ∀ k, (∀ j, j < k → flt p l j = 0) → (fw p l k).1 ≤ (fw p l k).2
  | 0, _ => Int.le_refl _
  | k + 1, h => by
    have ih := fw_le wp cv k fun j hj => h j (by omega)
    have h1 := flt_zero.1 (h k (by omega))
    have h2 := win_le wp k
    have h3 := pl_le wp cv k
    simp only [fw]; omega

theorem can_ffail {p : Pl} {l : List Nat} (wp : WP p) (cv : CV p l) : can p l = true ↔ ffail p l = none := by
  rw [can_fit wp cv, ffail_iff]
  have w0 : wl p 0 = p.s0l := rfl
  have w0' : wh p 0 = p.s0h := rfl
  have w1 : wl p 1 = p.s1l := rfl
  have w1' : wh p 1 = p.s1h := rfl
  have w2 : wl p 2 = p.dl := rfl
  have w2' : wh p 2 = p.dh := rfl
  have e1 : fw p l 0 = (p.beg, p.beg) := rfl
  constructor
  · rintro ⟨a, b, c, h⟩
    obtain ⟨h1, h2, h3, h4, h5, h6, h7, h8, h9, h10, h11, h12⟩ := h
    rw [flt_zero, flt_zero, flt_zero]
    simp only [fw, w0, w0', w1, w1', w2, w2']
    omega
  · rintro ⟨g0, g1, g2⟩
    have hz : ∀ j, j < 3 → flt p l j = 0 := fun j hj => by rcases j with _ | _ | _ | j; exact g0; exact g1; exact g2; omega
    have l1 := fw_le wp cv 1 fun j hj => hz j (by omega)
    have l2 := fw_le wp cv 2 fun j hj => hz j (by omega)
    have l3 := fw_le wp cv 3 fun j hj => hz j (by omega)
    have q0 := pl_le wp cv 0; have q1 := pl_le wp cv 1; have q2 := pl_le wp cv 2
    have f1 : fw p l 1 = (max (p.beg + pl p l 0) p.s0l, min (p.beg + ph p l 0) p.s0h) := rfl
    have f2 : fw p l 2 = (max ((fw p l 1).1 + pl p l 1) p.s1l, min ((fw p l 1).2 + ph p l 1) p.s1h) := rfl
    have f3 : fw p l 3 = (max ((fw p l 2).1 + pl p l 2) p.dl, min ((fw p l 2).2 + ph p l 2) p.dh) := rfl
    rw [f3] at l3
    simp only at l3
    obtain ⟨b, b1, b2, b3, b4⟩ := pick (t := max ((fw p l 2).1 + pl p l 2) p.dl) l2 q2 (by omega) (by omega)
    have b1' := b1; have b2' := b2
    rw [f2] at b1' b2'
    simp only at b1' b2'
    obtain ⟨a, a1, a2, a3, a4⟩ := pick (t := b) l1 q1 (by omega) (by omega)
    rw [f1] at a1 a2
    simp only at a1 a2
    exact ⟨a, b, max ((fw p l 2).1 + pl p l 2) p.dl, by omega, by omega, by omega, by omega, by omega, by omega, by omega, by omega, by omega, by omega, by omega, by omega⟩

theorem gp_of_ok {p : Pl} (h : PlOK p = true) : GP p ∧ WP p := by
  simp only [PlOK, wnd, inn, Bool.and_eq_true, decide_eq_true_eq] at h
  obtain ⟨⟨⟨⟨⟨h1, h2⟩, h3⟩, h4⟩, h5⟩, h6⟩ := h
  have hs : ∀ x ∈ p.scenes, 1 ≤ x.least ∧ x.least ≤ 240 ∧ x.least ≤ x.most ∧ x.most ≤ 240 := fun x hx => by
    obtain ⟨i, hi, rfl⟩ := List.getElem_of_mem hx
    have := h6.1 i hi
    simp only [scBad, inn, Bool.or_eq_false_iff, Bool.not_eq_false', Bool.and_eq_true, decide_eq_true_eq] at this
    omega
  exact ⟨⟨by omega, fun x hx => by have := hs x hx; omega, by omega, by omega, by omega, by omega, by omega, by omega, by omega⟩, ⟨by omega, by omega, by omega, by omega, fun x hx => (hs x hx).2.2.1⟩⟩
theorem fixP_wp {p : Pl} (wp : WP p) (k : Nat) (n : Int) : WP (fixP p k n) := ⟨by rw [fixP_len]; exact wp.len, wp.s0, wp.s1, wp.d, fun x hx => by
  rcases List.mem_or_eq_of_mem_set hx with h1 | h1
  · exact wp.lm x h1
  · subst h1; exact Int.le_refl _⟩
end Ni

namespace Ni

def dn (l : List Int) : List Nat := l.map Int.toNat
theorem dn_up (l : List Nat) : dn (up l) = l := by
  unfold dn up; rw [List.map_map]
  conv => rhs; rw [← List.map_id l]
  exact List.map_congr_left fun x _ => rfl

/-! which scenes are played -/
def cntT (p : Pl) (k i : Nat) : Nat := (((choicesC p).take i).filter fun l => decide (k ∈ l)).length
def cnt (p : Pl) (k : Nat) : Nat := cntT p k (choicesC p).length
def word (p : Pl) (k : Nat) : Int := if cnt p k = 0 then 1 else if cnt p k = (choicesC p).length then 3 else 2
def wordsT (p : Pl) (k : Nat) : List Int := (List.range k).map (word p)
theorem wordsT_succ (p : Pl) (k : Nat) : wordsT p (k + 1) = wordsT p k ++ [word p k] := by simp [wordsT, List.range_succ]
theorem wordsT_len (p : Pl) (k : Nat) : (wordsT p k).length = k := by simp [wordsT]
theorem cntT_le (p : Pl) (k i : Nat) : cntT p k i ≤ i := Nat.le_trans (List.length_filter_le _ _) (List.length_take_le _ _)

/-! when parts end -/
/-- the widest of some bounds -/
def wd : List (Int × Int) → Int × Int
  | [] => (0, 0)
  | v :: vs => vs.foldl (fun a b => (min a.1 b.1, max a.2 b.2)) v
theorem wd_app {vs : List (Int × Int)} (h : vs ≠ []) (v : Int × Int) : wd (vs ++ [v]) = (min (wd vs).1 v.1, max (wd vs).2 v.2) := by
  cases vs with
  | nil => exact absurd rfl h
  | cons x vs => simp [wd, List.foldl_append]
def endV (p : Pl) (k : Nat) (l : List Nat) : Int × Int := (max (fw p l (k + 1)).1 (bw p l (2 - k)).1, min (fw p l (k + 1)).2 (bw p l (2 - k)).2)
def endT (p : Pl) (k i : Nat) : Int × Int := wd (((choicesC p).take i).map (endV p k))
def endsT (p : Pl) (n : Nat) : List (Int × Int) := (List.range n).map fun k => endT p k (choicesC p).length
theorem endsT_succ (p : Pl) (k : Nat) : endsT p (k + 1) = endsT p k ++ [endT p k (choicesC p).length] := by simp [endsT, List.range_succ]
theorem endsT_len (p : Pl) (k : Nat) : (endsT p k).length = k := by simp [endsT]
theorem wdT_succ {L : List (List Nat)} (f : List Nat → Int × Int) {i : Nat} (h : i < L.length) : wd ((L.take (i + 1)).map f) = if 0 < i then (min (wd ((L.take i).map f)).1 (f L[i]).1, max (wd ((L.take i).map f)).2 (f L[i]).2) else f L[i] := by
  rw [List.take_succ_eq_append_getElem h, List.map_append]
  split
  · rename_i hi
    exact wd_app (by
      intro he
      have := congrArg List.length he
      rw [List.length_map, List.length_take, List.length_nil] at this; omega) _
  · rename_i hi
    have : i = 0 := by omega
    subst this; simp [wd]

/-! hours -/
def atF (p : Pl) (hs : List Int) : Nat → Int
  | 0 => p.beg
  | k + 1 => hs.getD k 0
def fitBad (p : Pl) (l : List Nat) (hs : List Int) (k : Nat) (h : k < hs.length) : Bool := !inn (hs[k] - atF p hs k) (pl p l k) (ph p l k)
def fitsP (p : Pl) (l : List Nat) (hs : List Int) : Bool := okAll hs.length (fitBad p l hs)
theorem atF_succ {p : Pl} {hs : List Int} {k : Nat} (h : k < hs.length) : atF p hs (k + 1) = hs[k] := by
  show hs.getD k 0 = _
  rw [List.getD_eq_getElem?_getD, List.getElem?_eq_getElem h]; rfl
theorem atF_bd {p : Pl} {hs : List Int} (gp : GP p) (hb : ∀ x ∈ hs, -1000000000 ≤ x ∧ x ≤ 1000000000) (k : Nat) : -1000000000 ≤ atF p hs k ∧ atF p hs k ≤ 1000000000 := by
  cases k with
  | zero => have := gp.beg; simp only [atF]; omega
  | succ k =>
    rcases Nat.lt_or_ge k hs.length with h | h
    · rw [atF_succ h]; exact hb _ (List.getElem_mem h)
    · simp only [atF]; rw [List.getD_eq_getElem?_getD, List.getElem?_eq_none h]; simp
/-- hours that nothing fits -/
def missH (p : Pl) (hs : List Int) : Bool := !(allC p).any fun l => fitsP p l hs
def msC (p : Pl) (i j k : Nat) : List (List Int) := [[p.s0l + i, p.s1l + j, p.dl + k]]
def msB (p : Pl) (i j : Nat) : List (List Int) := fm (wid p.dl p.dh) (msC p i j)
def msA (p : Pl) (i : Nat) : List (List Int) := fm (wid p.s1l p.s1h) (msB p i)
def msAll (p : Pl) : List (List Int) := fm (wid p.s0l p.s0h) (msA p)
def missed (p : Pl) : Option (List Int) := (msAll p).find? (missH p)
theorem fm_find {α : Type} {f : Nat → List α} {q : α → Bool} {i : Nat} {x : α} : ∀ n, i < n → (fm i f).find? q = none → (f i).find? q = some x → (fm n f).find? q = some x
  | 0, h, _, _ => by omega
  | n + 1, h, h0, h1 => by
    rw [fm_succ, List.find?_append]
    by_cases e : i = n
    · subst e; rw [h0, h1]; rfl
    · rw [fm_find n (by omega) h0 h1]; rfl
theorem fm_find_succ {α : Type} {f : Nat → List α} {q : α → Bool} {i : Nat} (h0 : (fm i f).find? q = none) (h1 : (f i).find? q = none) : (fm (i + 1) f).find? q = none := by
  rw [fm_succ, List.find?_append, h0, h1]; rfl

end Ni

namespace Ni
open Go Go.Ab

def isD (b : UInt8) : Bool := decide (48 ≤ b.toNat) && decide (b.toNat ≤ 57)
def valN (l : List UInt8) : Int := l.foldl (fun a b => 10 * a + ((b.toNat : Int) - 48)) 0
theorem valN_snoc (l : List UInt8) (b : UInt8) : valN (l ++ [b]) = 10 * valN l + ((b.toNat : Int) - 48) := by simp [valN, List.foldl_append]
theorem valN_take {l : List UInt8} {k : Nat} (h : k < l.length) : valN (l.take (k + 1)) = 10 * valN (l.take k) + ((l[k].toNat : Int) - 48) := by
  rw [List.take_succ_eq_append_getElem h, valN_snoc]
theorem isD_iff (b : UInt8) : isD b = true ↔ 48 ≤ b.toNat ∧ b.toNat ≤ 57 := by simp [isD]
theorem valN_bd {l : List UInt8} : ∀ {k : Nat}, k ≤ l.length → (∀ i, (h : i < l.length) → i < k → isD l[i] = true) → 0 ≤ valN (l.take k) ∧ valN (l.take k) < ((10 ^ k : Nat) : Int)
  | 0, _, _ => by simp [valN]
  | k + 1, hk, h => by
    have ih := valN_bd (l := l) (k := k) (by omega) fun i hi hik => h i hi (by omega)
    have hd := (isD_iff _).1 (h k (by omega) (by omega))
    rw [valN_take (by omega)]
    have : ((10 ^ (k + 1) : Nat) : Int) = 10 * ((10 ^ k : Nat) : Int) := by rw [Nat.pow_succ]; simp; omega
    omega
theorem valN_999 {l : List UInt8} {k : Nat} (hk : k ≤ l.length) (h3 : k ≤ 3) (h : ∀ i, (h : i < l.length) → i < k → isD l[i] = true) : 0 ≤ valN (l.take k) ∧ valN (l.take k) < 1000 := by
  have h1 := valN_bd hk h
  have : (10 ^ k : Nat) ≤ 10 ^ 3 := Nat.pow_le_pow_right (by omega) h3
  omega
/-- the number that a word is the numeral of -/
def numOf (w : List UInt8) : Option Int := if w.all isD = true ∧ w.length ≤ 3 ∧ w ≠ [] ∧ Lib.itoa (valN w) = w then some (valN w) else none
theorem numOf_dig {w : List UInt8} {k : Nat} (h : k < w.length) (hd : isD w[k] = false) : numOf w = none := by
  unfold numOf; rw [if_neg]
  intro ⟨h1, _⟩
  have := List.all_eq_true.1 h1 _ (List.getElem_mem h)
  rw [hd] at this; cases this
theorem numOf_len {w : List UInt8} (h : ¬ w.length ≤ 3) : numOf w = none := by
  unfold numOf; rw [if_neg]; intro ⟨_, h1, _⟩; exact h h1
theorem numOf_nil : numOf [] = none := by
  unfold numOf; rw [if_neg]; intro ⟨_, _, h1, _⟩; exact h1 rfl
theorem numOf_itoa {w : List UInt8} (h : ¬ Lib.itoa (valN w) = w) : numOf w = none := by
  unfold numOf; rw [if_neg]; intro ⟨_, _, _, h1⟩; exact h h1
theorem numOf_some {w : List UInt8} (hd : ∀ i, (h : i < w.length) → isD w[i] = true) (hl : w.length ≤ 3) (hne : w ≠ []) (hi : Lib.itoa (valN w) = w) : numOf w = some (valN w) := by
  unfold numOf; rw [if_pos]
  refine ⟨List.all_eq_true.2 fun x hx => ?_, hl, hne, hi⟩
  obtain ⟨i, hi, rfl⟩ := List.getElem_of_mem hx
  exact hd i hi

theorem dec_cases {w : List UInt8} {k : Nat} (h : k < w.length) : ((w[k]).toNat < 128 ∧ Utf8.decode ⟨w.toArray⟩ k = ((w[k]).toNat, 1)) ∨ (128 ≤ (w[k]).toNat ∧ 128 ≤ (Utf8.decode ⟨w.toArray⟩ k).1) := by
  have hk : k < (⟨w.toArray⟩ : ByteArray).size := by simp [ByteArray.size]; exact h
  have e : (⟨w.toArray⟩ : ByteArray)[k] = w[k] := rfl
  rcases Nat.lt_or_ge (w[k]).toNat 128 with ha | ha
  · exact .inl ⟨ha, by rw [decode_ascii _ _ hk (by rw [e]; exact ha), e]⟩
  · exact .inr ⟨ha, (decode_high _ _ hk (by rw [e]; exact ha)).1⟩
theorem dec_yes {w : List UInt8} {k : Nat} (h : k < w.length) (h1 : 48 ≤ (Utf8.decode ⟨w.toArray⟩ k).1) (h2 : (Utf8.decode ⟨w.toArray⟩ k).1 ≤ 57) : Utf8.decode ⟨w.toArray⟩ k = ((w[k]).toNat, 1) ∧ isD w[k] = true := by
  rcases dec_cases h with ⟨_, e⟩ | ⟨_, e⟩
  · refine ⟨e, (isD_iff _).2 ?_⟩
    rw [e] at h1 h2; exact ⟨h1, h2⟩
  · omega
theorem dec_no {w : List UInt8} {k : Nat} (h : k < w.length) (h1 : ¬ (48 ≤ (Utf8.decode ⟨w.toArray⟩ k).1 ∧ (Utf8.decode ⟨w.toArray⟩ k).1 ≤ 57)) : isD w[k] = false := by
  rcases dec_cases h with ⟨_, e⟩ | ⟨e1, e⟩
  · rw [e] at h1; simp only at h1
    rw [Bool.eq_false_iff]; intro hd; exact h1 ((isD_iff _).1 hd)
  · rw [Bool.eq_false_iff]; intro hd; have := (isD_iff _).1 hd; omega
end Ni

namespace Ni
open Go Go.Ab

/-- the check's share of a row, its first k bytes -/
def csT (m : Int) (l : List UInt8) (k : Nat) : Int := ((List.range k).map fun (j : Nat) => ((l.getD j 0).toNat : Int) * ((j : Int) + 1) * m).sum
theorem csT_succ (m : Int) {l : List UInt8} {k : Nat} (h : k < l.length) : csT m l (k + 1) = csT m l k + ((l[k].toNat : Int) * ((k : Int) + 1) * m) := by
  unfold csT
  rw [List.range_succ, List.map_append, List.sum_append]
  simp [List.getD_eq_getElem?_getD, h]
theorem term_bd {b : UInt8} {j : Nat} {m : Int} (hj : j < 1000) (hm : 0 ≤ m ∧ m ≤ 2000) : (0 ≤ (b.toNat : Int) * ((j : Int) + 1) ∧ (b.toNat : Int) * ((j : Int) + 1) ≤ 255000) ∧ 0 ≤ (b.toNat : Int) * ((j : Int) + 1) * m ∧ (b.toNat : Int) * ((j : Int) + 1) * m ≤ 510000000 := by
  have hb : b.toNat < 256 := b.toNat_lt
  have h1 : 0 ≤ (b.toNat : Int) * ((j : Int) + 1) := Int.mul_nonneg (by omega) (by omega)
  have h2 : (b.toNat : Int) * ((j : Int) + 1) ≤ 255 * 1000 := Int.mul_le_mul (by omega) (by omega) (by omega) (by omega)
  have h3 : (b.toNat : Int) * ((j : Int) + 1) * m ≤ 255000 * 2000 := Int.mul_le_mul (by omega) hm.2 hm.1 (by omega)
  exact ⟨⟨h1, by omega⟩, Int.mul_nonneg h1 hm.1, by omega⟩
theorem csT_bd {m : Int} (hm : 0 ≤ m ∧ m ≤ 2000) (l : List UInt8) : ∀ k, k ≤ l.length → l.length ≤ 1000 → 0 ≤ csT m l k ∧ csT m l k ≤ 510000000 * k
  | 0, _, _ => by simp [csT]
  | k + 1, hk, hl => by
    have ih := csT_bd hm l k (by omega) hl
    rw [csT_succ m (by omega)]
    have := term_bd (b := l[k]) (j := k) (m := m) (by omega) hm
    omega
def csL (m : Int) (l : List UInt8) : Int := csT m l l.length
/-- the check over the first i rows -/
def ctT (ls : List (List UInt8)) (i : Nat) : Int := ((List.range i).map fun (j : Nat) => csL ((j : Int) + 1) (ls.getD j [])).sum
theorem ctT_succ {ls : List (List UInt8)} {i : Nat} (h : i < ls.length) : ctT ls (i + 1) = ctT ls i + csL ((i : Int) + 1) ls[i] := by
  unfold ctT
  rw [List.range_succ, List.map_append, List.sum_append]
  simp [List.getD_eq_getElem?_getD, h]
theorem ctT_bd {ls : List (List UInt8)} (hl : ls.length ≤ 1999) (hb : ∀ l ∈ ls, l.length ≤ 1000) : ∀ i, i ≤ ls.length → 0 ≤ ctT ls i ∧ ctT ls i ≤ 510000000000 * i
  | 0, _ => by simp [ctT]
  | i + 1, hi => by
    have ih := ctT_bd hl hb i (by omega)
    rw [ctT_succ (by omega)]
    have h1 := hb _ (List.getElem_mem (show i < ls.length by omega))
    have := csT_bd (m := (i : Int) + 1) ⟨by omega, by omega⟩ ls[i] ls[i].length (Nat.le_refl _) h1
    unfold csL; omega
/-- the rows' text -/
def outT (ls : List (List UInt8)) (i : Nat) : List UInt8 := ((ls.take i).map fun l => l ++ [10]).flatten
theorem outT_succ {ls : List (List UInt8)} {i : Nat} (h : i < ls.length) : outT ls (i + 1) = outT ls i ++ (ls[i] ++ [10]) := by
  unfold outT; rw [map_take_succ _ h, List.flatten_append]; simp
theorem outT_len {ls : List (List UInt8)} (hb : ∀ l ∈ ls, l.length ≤ 1000) : ∀ i, i ≤ ls.length → (outT ls i).length ≤ 1001 * i
  | 0, _ => by simp [outT]
  | i + 1, hi => by
    have ih := outT_len hb i (by omega)
    have h1 := hb _ (List.getElem_mem (show i < ls.length by omega))
    rw [outT_succ (by omega), List.length_append, List.length_append]; simp; omega
def digs3 (c : Int) : List UInt8 := Lib.itoa (c / 100) ++ Lib.itoa (c / 10 % 10) ++ Lib.itoa (c % 10)
/-- rows, sealed -/
def sealL (ls : List (List UInt8)) : List UInt8 := outT ls ls.length ++ [101, 110, 100, 32] ++ digs3 (ctT ls ls.length % 181) ++ [10]
theorem qd {c d : Int} (h : 0 ≤ c) (h2 : c ≤ 1000000) (hd : 0 < d) : IntKind.i64.wrap (c.tdiv d) = c / d := by
  rw [Int.tdiv_eq_ediv_of_nonneg h]
  have h3 := Int.ediv_nonneg h (Int.le_of_lt hd)
  have h4 := Int.ediv_le_self d h
  exact IntWalk.i64_in _ ⟨by omega, by omega⟩
end Ni

namespace Ni
open Go Go.Ab

theorem numOf_bd {w : List UInt8} {n : Int} (h : numOf w = some n) : 0 ≤ n ∧ n ≤ 999 := by
  unfold numOf at h
  split at h
  · rename_i h1
    obtain ⟨h1, h2, _, _⟩ := h1
    simp only [Option.some.injEq] at h; subst h
    have := valN_999 (l := w) (k := w.length) (Nat.le_refl _) h2 fun i hi _ => List.all_eq_true.1 h1 _ (List.getElem_mem hi)
    rw [List.take_length] at this; omega
  · cases h

/-- the first so many numbers -/
def numsOf : List (List UInt8) → Option (List Int)
  | [] => some []
  | w :: ws => match numOf w, numsOf ws with
    | some n, some l => some (n :: l)
    | _, _ => none
theorem numsOf_bad : ∀ {ws : List (List UInt8)} {k : Nat} (h : k < ws.length), numOf ws[k] = none → numsOf ws = none
  | w :: ws, 0, h, hn => by rw [numsOf]; simp at hn; rw [hn]
  | w :: ws, k + 1, h, hn => by
    have := numsOf_bad (ws := ws) (k := k) (by simpa using h) (by simpa using hn)
    rw [numsOf, this]
    cases numOf w <;> rfl
theorem numsOf_ok : ∀ {ws : List (List UInt8)} {ns : List Int} (hl : ns.length = ws.length), (∀ i (h : i < ws.length), numOf ws[i] = some (ns[i]'(by omega))) → numsOf ws = some ns
  | [], ns, hl, _ => by simp at hl; subst hl; rfl
  | w :: ws, [], hl, _ => by simp at hl
  | w :: ws, n :: ns, hl, h => by
    have h0 := h 0 (by simp)
    simp at h0
    have := numsOf_ok (ws := ws) (ns := ns) (by simpa using hl) fun i hi => h (i + 1) (by simpa using hi)
    rw [numsOf, h0, this]

/-- a scene's row -/
def rowSc (r : List UInt8) : Option Sc :=
  match cut 32 r with
  | [w0, w1, w2, w3, w4] => match numOf w1, numOf w2, numOf w3, (if w4 = [45] then some (-1) else numOf w4) with
    | some a, some b, some c, some d => some { part := a, least := b, most := c, loose := decide (w0 = [98, 97, 116, 116, 108, 101]), wants := d }
    | _, _, _, _ => none
  | _ => none
def rowsSc : List (List UInt8) → Option (List Sc)
  | [] => some []
  | w :: ws => match rowSc w, rowsSc ws with
    | some n, some l => some (n :: l)
    | _, _ => none
theorem rowsSc_bad : ∀ {ws : List (List UInt8)} {k : Nat} (h : k < ws.length), rowSc ws[k] = none → rowsSc ws = none
  | w :: ws, 0, h, hn => by rw [rowsSc]; simp at hn; rw [hn]
  | w :: ws, k + 1, h, hn => by
    have := rowsSc_bad (ws := ws) (k := k) (by simpa using h) (by simpa using hn)
    rw [rowsSc, this]
    cases rowSc w <;> rfl
theorem rowsSc_ok : ∀ {ws : List (List UInt8)} {ns : List Sc} (hl : ns.length = ws.length), (∀ i (h : i < ws.length), rowSc ws[i] = some (ns[i]'(by omega))) → rowsSc ws = some ns
  | [], ns, hl, _ => by simp at hl; subst hl; rfl
  | w :: ws, [], hl, _ => by simp at hl
  | w :: ws, n :: ns, hl, h => by
    have h0 := h 0 (by simp)
    simp at h0
    have := rowsSc_ok (ws := ws) (ns := ns) (by simpa using hl) fun i hi => h (i + 1) (by simpa using hi)
    rw [rowsSc, h0, this]
def headOf : List Int → List Sc → Pl
  | [a, b, c, d, e, f, g], l => ⟨a, b, c, d, e, f, g, l⟩
  | _, l => ⟨0, 0, 0, 0, 0, 0, 0, l⟩
end Ni

namespace Ni

/-! hours, and what parts can do -/
abbrev Hr := Int × Int × Int
/-- when a part begins, and ends -/
def prH (p : Pl) (h : Hr) (k : Nat) : Int × Int := if k = 0 then (p.beg, h.1) else if k = 1 then (h.1, h.2.1) else (h.2.1, h.2.2)
structure Rg (p : Pl) (l : List Nat) (k : Nat) (x y : Int) : Prop where
  x1 : (fw p l k).1 ≤ x
  x2 : x ≤ (fw p l k).2
  y1 : (bw p l (2 - k)).1 ≤ y
  y2 : y ≤ (bw p l (2 - k)).2
  d1 : pl p l k ≤ y - x
  d2 : y - x ≤ ph p l k
section
variable {p : Pl} {l : List Nat}
end

/-- the bounds g are met by the bounds f of some things, and none of these lies outside -/
structure Met {β : Type} (hs : List β) (f : β → Int × Int) (g : Int × Int) : Prop where
  low : ∃ h ∈ hs, (f h).1 = g.1
  lows : ∀ h ∈ hs, g.1 ≤ (f h).1
  high : ∃ h ∈ hs, (f h).2 = g.2
  highs : ∀ h ∈ hs, (f h).2 ≤ g.2
/-! one choice -/
section
variable {p : Pl} {l : List Nat} (wp : WP p) (cv : CV p l) (hc : can p l = true)
include wp cv hc
end
end Ni
