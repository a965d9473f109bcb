/-
  What a shadow is, and what is computed of it, plainly, with no program in sight. Conditions: none.
-/

set_option linter.all false
namespace Ni
structure Sc where
  part : Int
  least : Int
  most : Int
  loose : Bool
  wants : Int
  deriving DecidableEq, Inhabited
structure Pl where
  beg : Int
  s0l : Int
  s0h : Int
  s1l : Int
  s1h : Int
  dl : Int
  dh : Int
  scenes : List Sc
  deriving DecidableEq, Inhabited
def inn (n lo hi : Int) : Bool := decide (lo ≤ n) && decide (n ≤ hi)
def wnd (lo hi : Int) : Bool := inn lo 0 900 && inn hi lo 900 && decide (hi - lo ≤ 30)
def scBad (l : List Sc) (i : Nat) (h : i < l.length) : Bool :=
  !inn l[i].part 0 2 || (decide (0 < i) && decide (l[i].part < (l[i - 1]'(by omega)).part)) || !inn l[i].least 1 240 || !inn l[i].most l[i].least 240 || !inn l[i].wants (-1) (l.length - 1) || decide (l[i].wants = i)
def loosies (l : List Sc) : Nat := l.countP (·.loose)
def ScOK (l : List Sc) : Prop := (∀ i, (h : i < l.length) → scBad l i h = false) ∧ loosies l ≤ 6
instance (l : List Sc) : Decidable (ScOK l) := inferInstanceAs (Decidable (_ ∧ _))
theorem scOK_bad {l : List Sc} {i : Nat} (h : i < l.length) (hb : scBad l i h = true) : decide (ScOK l) = false := by
  simp only [decide_eq_false_iff_not]
  intro hk
  have := hk.1 i h
  rw [hb] at this; cases this
theorem scOK_all {l : List Sc} (h : ∀ i, (h : i < l.length) → scBad l i h = false) : decide (ScOK l) = decide (loosies l ≤ 6) := by
  simp only [decide_eq_decide]
  exact ⟨fun k => k.2, fun k => ⟨h, k⟩⟩
theorem scOK_end {l : List Sc} {k : Nat} (hk : k ≤ l.length) (hn : ¬ (k : Int) < l.length) (h : ∀ i, (h : i < l.length) → i < k → scBad l i h = false) :
    decide ((loosies (l.take k) : Int) ≤ 6) = decide (ScOK l) := by
  have hk' : k = l.length := by omega
  subst hk'
  rw [scOK_all (fun i g => h i g g), List.take_length]
  simp only [decide_eq_decide]; omega
theorem loosies_take {l : List Sc} {k : Nat} (h : k < l.length) : loosies (l.take (k + 1)) = loosies (l.take k) + (if l[k].loose = true then 1 else 0) := by
  unfold loosies
  rw [List.take_succ_eq_append_getElem h, List.countP_append]
  simp [List.countP_cons]
theorem loosies_le (l : List Sc) : loosies l ≤ l.length := List.countP_le_length
def okAll (n : Nat) (bad : (i : Nat) → i < n → Bool) : Bool := decide (∀ i, (h : i < n) → bad i h = false)
theorem okAll_bad {n : Nat} {bad : (i : Nat) → i < n → Bool} {i : Nat} (h : i < n) (hb : bad i h = true) : okAll n bad = false := by
  simp only [okAll, decide_eq_false_iff_not]
  intro hk
  have := hk i h
  rw [hb] at this; cases this
theorem okAll_end {n : Nat} {bad : (i : Nat) → i < n → Bool} {k : Nat} (_hk : k ≤ n) (hn : ¬ (k : Int) < n) (h : ∀ i, (h : i < n) → i < k → bad i h = false) : okAll n bad = true := by
  simp only [okAll, decide_eq_true_eq]
  exact fun i hi => h i hi (by omega)
theorem okAll_iff {n : Nat} {bad : (i : Nat) → i < n → Bool} : okAll n bad = true ↔ ∀ i, (h : i < n) → bad i h = false := by simp [okAll]
def PlOK (p : Pl) : Bool := inn p.beg 0 900 && wnd p.s0l p.s0h && wnd p.s1l p.s1h && wnd p.dl p.dh && inn p.scenes.length 1 10 && decide (ScOK p.scenes)
def has (l : List Int) (n : Int) : Bool := decide (n ∈ l)
def chBad (p : Pl) (l : List Int) (i : Nat) (h : i < p.scenes.length) : Bool :=
  (!has l i && !p.scenes[i].loose) || (has l i && decide (0 ≤ p.scenes[i].wants) && !has l p.scenes[i].wants)
def isCh (p : Pl) (l : List Int) : Bool := okAll p.scenes.length (chBad p l)
def scn (p : Pl) (x : Nat) : Sc := p.scenes.getD x default
theorem scn_eq {p : Pl} {x : Nat} (h : x < p.scenes.length) : scn p x = p.scenes[x] := by simp [scn, List.getD_eq_getElem?_getD, h]
theorem scn_mem {p : Pl} {x : Nat} (h : x < p.scenes.length) : scn p x ∈ p.scenes := by rw [scn_eq h]; exact List.getElem_mem h
def ssum (f : Nat → Int) (c : Nat → Bool) (l : List Nat) : Int := ((l.filter c).map f).sum
structure GP (p : Pl) : Prop where
  len : p.scenes.length ≤ 16
  vals : ∀ x ∈ p.scenes, 0 ≤ x.least ∧ x.least ≤ 10000 ∧ 0 ≤ x.most ∧ x.most ≤ 10000
  beg : -10000 ≤ p.beg ∧ p.beg ≤ 10000
  s0l : 0 ≤ p.s0l ∧ p.s0l ≤ 10000
  s0h : 0 ≤ p.s0h ∧ p.s0h ≤ 10000
  s1l : 0 ≤ p.s1l ∧ p.s1l ≤ 10000
  s1h : 0 ≤ p.s1h ∧ p.s1h ≤ 10000
  dl : 0 ≤ p.dl ∧ p.dl ≤ 10000
  dh : 0 ≤ p.dh ∧ p.dh ≤ 10000
theorem GP.least {p : Pl} (g : GP p) {x : Nat} (h : x < p.scenes.length) : 0 ≤ (scn p x).least ∧ (scn p x).least ≤ 10000 := ⟨(g.vals _ (scn_mem h)).1, (g.vals _ (scn_mem h)).2.1⟩
theorem GP.most {p : Pl} (g : GP p) {x : Nat} (h : x < p.scenes.length) : 0 ≤ (scn p x).most ∧ (scn p x).most ≤ 10000 := (g.vals _ (scn_mem h)).2.2
structure CV (p : Pl) (l : List Nat) : Prop where
  len : l.length ≤ 1000
  rng : ∀ x ∈ l, x < p.scenes.length
def inP (p : Pl) (part a b : Int) (x : Nat) : Bool := decide ((scn p x).part = part) && decide (a ≤ (x : Int)) && decide ((x : Int) ≤ b)
def lo (p : Pl) (l : List Nat) (part a b : Int) : Int := ssum (fun x => (scn p x).least) (inP p part a b) l
def hi (p : Pl) (l : List Nat) (part a b : Int) : Int := ssum (fun x => (scn p x).most) (inP p part a b) l
def fm {α : Type} (n : Nat) (f : Nat → List α) : List α := (List.range n).flatMap f
theorem fm_succ {α : Type} (n : Nat) (f : Nat → List α) : fm (n + 1) f = fm n f ++ f n := by simp [fm, List.range_succ]
theorem fm_len {α : Type} {f : Nat → List α} {B : Nat} (h : ∀ i, (f i).length ≤ B) : ∀ n, (fm n f).length ≤ n * B
  | 0 => by simp [fm]
  | n + 1 => by
    have := fm_len h n
    have := h n
    rw [fm_succ, List.length_append, Nat.add_mul]; omega
def wid (a b : Int) : Nat := (b - a + 1).toNat
def hC (p : Pl) (l : List Nat) (a b : Int) (k : Nat) : List (Int × Int × Int) := if inn (p.dl + k - b) (lo p l 2 0 10) (hi p l 2 0 10) = true then [(a, b, p.dl + k)] else []
def hB (p : Pl) (l : List Nat) (a : Int) (j : Nat) : List (Int × Int × Int) := if inn (p.s1l + j - a) (lo p l 1 0 10) (hi p l 1 0 10) = true then fm (wid p.dl p.dh) (hC p l a (p.s1l + j)) else []
def hA (p : Pl) (l : List Nat) (i : Nat) : List (Int × Int × Int) := if inn (p.s0l + i - p.beg) (lo p l 0 0 10) (hi p l 0 0 10) = true then fm (wid p.s1l p.s1h) (hB p l (p.s0l + i)) else []
def hrs (p : Pl) (l : List Nat) : List (Int × Int × Int) := fm (wid p.s0l p.s0h) (hA p l)
def can (p : Pl) (l : List Nat) : Bool := decide (0 < (hrs p l).length)
def nxt (now : List Nat) : Nat := match now.getLast? with
  | none => 0
  | some x => x + 1
theorem nxt_app (now : List Nat) (x : Nat) : nxt (now ++ [x]) = x + 1 := by simp [nxt]
theorem nxt_le {now : List Nat} {n : Nat} (h : ∀ x ∈ now, x < n) : nxt now ≤ n := by
  unfold nxt
  split
  · omega
  · rename_i x hx; have := h x (List.mem_of_getLast? hx); omega
def lsts (n : Nat) : Nat → List Nat → List (List Nat)
  | 0, now => [now]
  | m + 1, now => fm (n - nxt now) fun i => lsts n m (now ++ [nxt now + i])
theorem fm_pow {α : Type} {f : Nat → List α} {d : Nat} (h : ∀ i, i < d → (f i).length ≤ 2 ^ (d - (i + 1))) : ∀ k, k ≤ d → (fm k f).length + 2 ^ (d - k) ≤ 2 ^ d
  | 0, _ => by simp [fm]
  | k + 1, hk => by
    have ih := fm_pow h k (by omega)
    have := h k (by omega)
    rw [fm_succ, List.length_append]
    have e : 2 ^ (d - k) = 2 ^ (d - (k + 1)) + 2 ^ (d - (k + 1)) := by
      rw [show d - k = d - (k + 1) + 1 by omega, Nat.pow_succ]; omega
    omega
theorem lsts_len (n : Nat) : ∀ (m : Nat) (now : List Nat), (lsts n m now).length ≤ 2 ^ (n - nxt now)
  | 0, now => by simp only [lsts, List.length_singleton]; exact Nat.one_le_two_pow
  | m + 1, now => by
    have := fm_pow (d := n - nxt now) (f := fun i => lsts n m (now ++ [nxt now + i])) (fun i hi => by
      have := lsts_len n m (now ++ [nxt now + i])
      rw [nxt_app] at this
      rwa [show n - (nxt now + i + 1) = n - nxt now - (i + 1) by omega] at this) (n - nxt now) (Nat.le_refl _)
    simp only [lsts]
    exact Nat.le_trans (Nat.le_add_right _ _) this
theorem lsts_all {n m : Nat} (now : List Nat) (hn : n ≤ 16) : (lsts n m now).length ≤ 65536 := by
  have h3 : 2 ^ (n - nxt now) ≤ 2 ^ 16 := Nat.pow_le_pow_right (by decide) (by omega)
  exact Nat.le_trans (lsts_len n m now) h3
end Ni
namespace Ni
theorem mem_fm {α : Type} {n : Nat} {f : Nat → List α} {a : α} : a ∈ fm n f ↔ ∃ i, i < n ∧ a ∈ f i := by simp [fm, List.mem_flatMap]
theorem lsts_mem {n : Nat} : ∀ {m : Nat} {now : List Nat}, (∀ x ∈ now, x < n) → ∀ l ∈ lsts n m now, l.length = now.length + m ∧ ∀ x ∈ l, x < n
  | 0, now, h, l, hl => by simp only [lsts, List.mem_singleton] at hl; subst hl; exact ⟨by omega, h⟩
  | m + 1, now, h, l, hl => by
    simp only [lsts] at hl
    obtain ⟨i, hi, hm⟩ := mem_fm.1 hl
    obtain ⟨h1, h2⟩ := lsts_mem (now := now ++ [nxt now + i]) (fun x hx => by
      rcases List.mem_append.1 hx with h' | h'
      · exact h x h'
      · simp at h'; omega) l hm
    exact ⟨by simp at h1; omega, h2⟩
theorem filter_take_succ {α : Type} (q : α → Bool) {L : List α} {j : Nat} (h : j < L.length) : (L.take (j + 1)).filter q = (L.take j).filter q ++ (if q L[j] = true then [L[j]] else []) := by
  rw [List.take_succ_eq_append_getElem h, List.filter_append]
  by_cases hq : q L[j] = true <;> simp [hq]
def up (l : List Nat) : List Int := l.map fun (x : Nat) => (x : Int)
def isC (p : Pl) (l : List Nat) : Bool := isCh p (up l)
def aL (p : Pl) (i : Nat) : List (List Nat) := lsts p.scenes.length (p.scenes.length - i) []
def aA (p : Pl) (i : Nat) : List (List Nat) := (aL p i).filter (isC p)
def allC (p : Pl) : List (List Nat) := fm (p.scenes.length + 1) (aA p)
def choicesC (p : Pl) : List (List Nat) := (allC p).filter (can p)
theorem aL_mem {p : Pl} (gp : GP p) {i : Nat} : ∀ l ∈ aL p i, CV p l := fun l hl => by
  obtain ⟨h1, h2⟩ := lsts_mem (by simp) l hl
  have := gp.len
  exact ⟨by simp at h1; omega, h2⟩
theorem aL_len {p : Pl} (gp : GP p) (i : Nat) : (aL p i).length ≤ 65536 := lsts_all [] gp.len
theorem aA_len {p : Pl} (gp : GP p) (i : Nat) : (aA p i).length ≤ 65536 := Nat.le_trans (List.length_filter_le _ _) (aL_len gp i)
theorem allC_mem {p : Pl} (gp : GP p) : ∀ l ∈ allC p, CV p l := fun l hl => by
  obtain ⟨i, _, h⟩ := mem_fm.1 hl
  exact aL_mem gp l (List.mem_filter.1 h).1
theorem aAs_len {p : Pl} (gp : GP p) {i : Nat} (h : i ≤ p.scenes.length + 1) : (fm i (aA p)).length ≤ 1114112 := by
  have := fm_len (aA_len gp) i
  have := gp.len
  omega
theorem allC_len {p : Pl} (gp : GP p) : (allC p).length ≤ 1114112 := aAs_len gp (Nat.le_refl _)
theorem ft_len {α : Type} (q : α → Bool) (L : List α) (j : Nat) : ((L.take j).filter q).length ≤ L.length := by
  have h1 := List.length_filter_le q (L.take j)
  have h2 := List.length_take_le' j L
  omega
def fixS (x : Sc) (n : Int) : Sc := { x with least := n, most := n }
def fixP (p : Pl) (k : Nat) (n : Int) : Pl := { p with scenes := p.scenes.set k (fixS (scn p k) n) }
def goOn (p : Pl) (l : List Nat) (k : Nat) (n : Int) : Bool := decide (n < (scn p k).most) && !can (fixP p k n) l
def climb (p : Pl) (l : List Nat) (k : Nat) : Nat → Int → Int
  | 0, n => n
  | f + 1, n => if goOn p l k n = true then climb p l k f (n + 1) else n
def fuel (p : Pl) (k : Nat) (n : Int) : Nat := ((scn p k).most - n).toNat
def len1 (p : Pl) (l : List Nat) (k : Nat) : Int := climb p l k (fuel p k (scn p k).least) (scn p k).least
theorem climb_stop {p : Pl} {l : List Nat} {k : Nat} {n : Int} (h : goOn p l k n = false) (f : Nat) : climb p l k f n = n := by
  cases f with
  | zero => rfl
  | succ f => simp [climb, h]
theorem climb_go {p : Pl} {l : List Nat} {k : Nat} {n : Int} (h : goOn p l k n = true) : climb p l k (fuel p k n) n = climb p l k (fuel p k (n + 1)) (n + 1) := by
  have hn : n < (scn p k).most := by simp [goOn] at h; exact h.1
  have e : fuel p k n = fuel p k (n + 1) + 1 := by unfold fuel; omega
  rw [e]; simp [climb, h]
theorem climb_bd {p : Pl} {l : List Nat} {k : Nat} : ∀ (f : Nat) (n : Int), n ≤ climb p l k f n ∧ (climb p l k f n ≤ n ∨ climb p l k f n ≤ (scn p k).most)
  | 0, n => ⟨Int.le_refl _, .inl (Int.le_refl _)⟩
  | f + 1, n => by
    simp only [climb]
    split
    · rename_i h
      have hn : n < (scn p k).most := by simp [goOn] at h; exact h.1
      have := climb_bd f (p := p) (l := l) (k := k) (n + 1)
      omega
    · exact ⟨Int.le_refl _, .inl (Int.le_refl _)⟩
def pS (p : Pl) (l : List Nat) : Nat → Pl
  | 0 => p
  | i + 1 => fixP (pS p l i) (l.getD i 0) (len1 (pS p l i) l (l.getD i 0))
def oS (p : Pl) (l : List Nat) : Nat → List Int
  | 0 => []
  | i + 1 => oS p l i ++ [len1 (pS p l i) l (l.getD i 0)]
theorem oS_len (p : Pl) (l : List Nat) : ∀ i, (oS p l i).length = i
  | 0 => rfl
  | i + 1 => by simp [oS, oS_len p l i]
theorem fixP_len (p : Pl) (k : Nat) (n : Int) : (fixP p k n).scenes.length = p.scenes.length := by simp [fixP]
theorem fixP_gp {p : Pl} (gp : GP p) (k : Nat) {n : Int} (h : 0 ≤ n ∧ n ≤ 10000) : GP (fixP p k n) := by
  refine ⟨by rw [fixP_len]; exact gp.len, fun x hx => ?_, gp.beg, gp.s0l, gp.s0h, gp.s1l, gp.s1h, gp.dl, gp.dh⟩
  rcases List.mem_or_eq_of_mem_set hx with h1 | h1
  · exact gp.vals x h1
  · subst h1; exact ⟨h.1, h.2, h.1, h.2⟩
theorem fixP_cv {p : Pl} {l : List Nat} (cv : CV p l) (k : Nat) (n : Int) : CV (fixP p k n) l := ⟨cv.len, fun x hx => by rw [fixP_len]; exact cv.rng x hx⟩
theorem len1_bd {p : Pl} (gp : GP p) (l : List Nat) {k : Nat} (h : k < p.scenes.length) : 0 ≤ len1 p l k ∧ len1 p l k ≤ 10000 := by
  have h1 := gp.least h
  have h2 := gp.most h
  have := climb_bd (p := p) (l := l) (k := k) (fuel p k (scn p k).least) (scn p k).least
  unfold len1; omega
theorem pS_ok {p : Pl} {l : List Nat} (gp : GP p) (cv : CV p l) : ∀ i, i ≤ l.length → GP (pS p l i) ∧ CV (pS p l i) l
  | 0, _ => ⟨gp, cv⟩
  | i + 1, h => by
    obtain ⟨h1, h2⟩ := pS_ok gp cv i (by omega)
    have hk : l.getD i 0 < (pS p l i).scenes.length := by
      rw [List.getD_eq_getElem?_getD, List.getElem?_eq_getElem (by omega)]
      exact h2.rng _ (List.getElem_mem _)
    exact ⟨fixP_gp h1 _ (len1_bd h1 l hk), fixP_cv h2 _ _⟩
def firstL (p : Pl) (l : List Nat) : List Int := oS p l l.length
end Ni
namespace Ni
theorem isum_take {l : List Int} {k : Nat} (h : k < l.length) : (l.take (k + 1)).sum = (l.take k).sum + l[k] := by
  rw [List.take_succ_eq_append_getElem h, List.sum_append]; simp
theorem isum_bd : ∀ {l : List Int}, (∀ x ∈ l, 0 ≤ x ∧ x ≤ 10000) → 0 ≤ l.sum ∧ l.sum ≤ 10000 * l.length
  | [], _ => by simp
  | x :: l, h => by
    have := isum_bd (l := l) (fun y hy => h y (List.mem_cons_of_mem _ hy))
    have := h x (by simp)
    simp only [List.sum_cons, List.length_cons]; omega
theorem isum_bd_take {l : List Int} (h : ∀ x ∈ l, 0 ≤ x ∧ x ≤ 10000) (hl : l.length ≤ 1000000) (k : Nat) : 0 ≤ (l.take k).sum ∧ (l.take k).sum ≤ 10000000000 := by
  have := isum_bd (l := l.take k) (fun x hx => h x (List.mem_of_mem_take hx))
  have := List.length_take_le' k l
  omega
def leasts (p : Pl) (xs : List Nat) : List Int := xs.map fun x => (scn p x).least
def mosts (p : Pl) (xs : List Nat) : List Int := xs.map fun x => (scn p x).most
theorem map_take_succ {α β : Type} (f : α → β) {l : List α} {k : Nat} (h : k < l.length) : (l.take (k + 1)).map f = (l.take k).map f ++ [f l[k]] := by
  rw [List.take_succ_eq_append_getElem h, List.map_append]; rfl
def lsum (p : Pl) (xs : List Nat) : Int := (leasts p xs).sum
def hsum (p : Pl) (xs : List Nat) : Int := (mosts p xs).sum
theorem leasts_mem {p : Pl} {xs : List Nat} (gp : GP p) (cv : CV p xs) : ∀ x ∈ leasts p xs, 0 ≤ x ∧ x ≤ 10000 := fun x hx => by
  obtain ⟨y, hy, rfl⟩ := List.mem_map.1 hx; exact gp.least (cv.rng y hy)
theorem mosts_mem {p : Pl} {xs : List Nat} (gp : GP p) (cv : CV p xs) : ∀ x ∈ mosts p xs, 0 ≤ x ∧ x ≤ 10000 := fun x hx => by
  obtain ⟨y, hy, rfl⟩ := List.mem_map.1 hx; exact gp.most (cv.rng y hy)
theorem lsum_bd {p : Pl} {xs : List Nat} (gp : GP p) (cv : CV p xs) : 0 ≤ lsum p xs ∧ lsum p xs ≤ 10000000 := by
  have h1 := isum_bd (leasts_mem gp cv)
  have h2 := cv.len
  have h3 : (leasts p xs).length = xs.length := by simp [leasts]
  rw [h3] at h1
  unfold lsum; omega
theorem hsum_bd {p : Pl} {xs : List Nat} (gp : GP p) (cv : CV p xs) : 0 ≤ hsum p xs ∧ hsum p xs ≤ 10000000 := by
  have h1 := isum_bd (mosts_mem gp cv)
  have h2 := cv.len
  have h3 : (mosts p xs).length = xs.length := by simp [mosts]
  rw [h3] at h1
  unfold hsum; omega
def inPart (p : Pl) (part : Int) (x : Nat) : Bool := decide ((scn p x).part = part)
def ofP (p : Pl) (l : List Nat) (part : Int) : List Nat := l.filter (inPart p part)
theorem ofP_cv {p : Pl} {l : List Nat} (cv : CV p l) (part : Int) : CV p (ofP p l part) :=
  ⟨Nat.le_trans (List.length_filter_le _ _) cv.len, fun x hx => cv.rng x (List.mem_filter.1 hx).1⟩
theorem lsum_of {p : Pl} {l : List Nat} (hp : p.scenes.length ≤ 10) (cv : CV p l) (part : Int) : lsum p (ofP p l part) = lo p l part 0 10 := by
  unfold lsum leasts lo ssum ofP
  congr 2
  refine List.filter_congr fun x hx => ?_
  have := cv.rng x hx
  unfold inPart inP
  have h1 : decide ((0 : Int) ≤ (x : Int)) = true := by simp
  have h2 : decide ((x : Int) ≤ 10) = true := by simp; omega
  rw [h1, h2]; simp
theorem hsum_of {p : Pl} {l : List Nat} (hp : p.scenes.length ≤ 10) (cv : CV p l) (part : Int) : hsum p (ofP p l part) = hi p l part 0 10 := by
  unfold hsum mosts hi ssum ofP
  congr 2
  refine List.filter_congr fun x hx => ?_
  have := cv.rng x hx
  unfold inPart inP
  have h1 : decide ((0 : Int) ≤ (x : Int)) = true := by simp
  have h2 : decide ((x : Int) ≤ 10) = true := by simp; omega
  rw [h1, h2]; simp
def wl (p : Pl) (k : Nat) : Int := if k = 0 then p.s0l else if k = 1 then p.s1l else p.dl
def wh (p : Pl) (k : Nat) : Int := if k = 0 then p.s0h else if k = 1 then p.s1h else p.dh
def pl (p : Pl) (l : List Nat) (k : Nat) : Int := lsum p (ofP p l k)
def ph (p : Pl) (l : List Nat) (k : Nat) : Int := hsum p (ofP p l k)
def fw (p : Pl) (l : List Nat) : Nat → Int × Int
  | 0 => (p.beg, p.beg)
  | k + 1 => (max ((fw p l k).1 + pl p l k) (wl p k), min ((fw p l k).2 + ph p l k) (wh p k))
def flt (p : Pl) (l : List Nat) (k : Nat) : Int := if (fw p l k).2 + ph p l k < wl p k then 1 else if wh p k < (fw p l k).1 + pl p l k then 2 else 0
def ffail (p : Pl) (l : List Nat) : Option (Nat × Int) := if flt p l 0 ≠ 0 then some (0, flt p l 0) else if flt p l 1 ≠ 0 then some (1, flt p l 1) else if flt p l 2 ≠ 0 then some (2, flt p l 2) else none
theorem ffail_some {p : Pl} {l : List Nat} {k : Nat} (hk : k < 3) (h : ∀ j, j < k → flt p l j = 0) (hf : flt p l k ≠ 0) : ffail p l = some (k, flt p l k) := by
  unfold ffail
  rcases k with _ | _ | _ | k
  · rw [if_pos hf]
  · rw [if_neg (by simp [h 0 (by omega)]), if_pos hf]
  · rw [if_neg (by simp [h 0 (by omega)]), if_neg (by simp [h 1 (by omega)]), if_pos hf]
  · omega
theorem ffail_none {p : Pl} {l : List Nat} (h : ∀ j, j < 3 → flt p l j = 0) : ffail p l = none := by
  unfold ffail
  rw [if_neg (by simp [h 0 (by omega)]), if_neg (by simp [h 1 (by omega)]), if_neg (by simp [h 2 (by omega)])]
def bw (p : Pl) (l : List Nat) : Nat → Int × Int
  | 0 => (wl p 2, wh p 2)
  | j + 1 => (max (wl p (1 - j)) ((bw p l j).1 - ph p l (2 - j)), min (wh p (1 - j)) ((bw p l j).2 - pl p l (2 - j)))
theorem win_bd {p : Pl} (gp : GP p) (k : Nat) : (0 ≤ wl p k ∧ wl p k ≤ 10000) ∧ (0 ≤ wh p k ∧ wh p k ≤ 10000) := by
  have := gp.s0l; have := gp.s0h; have := gp.s1l; have := gp.s1h; have := gp.dl; have := gp.dh
  unfold wl wh; constructor <;> (split; assumption; split <;> assumption)
theorem fw_bd {p : Pl} {l : List Nat} (gp : GP p) (cv : CV p l) : ∀ k, -10000 ≤ (fw p l k).1 ∧ (fw p l k).1 ≤ 10000000 * k + 10000 ∧ -10000 ≤ (fw p l k).2 ∧ (fw p l k).2 ≤ 10000
  | 0 => by have := gp.beg; simp [fw]; omega
  | k + 1 => by
    have ih := fw_bd gp cv k
    have h1 := lsum_bd gp (ofP_cv cv k)
    have h2 := hsum_bd gp (ofP_cv cv k)
    have h3 := win_bd gp k
    simp only [fw, pl, ph]; omega
end Ni
namespace Ni
theorem fm_filter {α : Type} (q : α → Bool) (n : Nat) (f : Nat → List α) : (fm n f).filter q = fm n fun i => (f i).filter q := by simp [fm, List.filter_flatMap]
theorem fm_more {α : Type} {f : Nat → List α} {d : Nat} : ∀ n, d ≤ n → (∀ i, d ≤ i → i < n → f i = []) → fm n f = fm d f
  | 0, h, _ => by have : d = 0 := by omega
                  subst this; rfl
  | n + 1, h, hf => by
    by_cases e : d = n + 1
    · rw [e]
    · rw [fm_succ, hf n (by omega) (by omega), List.append_nil]
      exact fm_more n (by omega) fun i h1 h2 => hf i h1 (by omega)
theorem fm_get {α : Type} {f : Nat → List α} {d : Nat} {i : Nat} {y : α} : ∀ n, d < n → (f d)[i]? = some y → (fm n f)[(fm d f).length + i]? = some y
  | 0, h, _ => by omega
  | n + 1, h, hy => by
    rw [fm_succ]
    have hi : i < (f d).length := (List.getElem?_eq_some_iff.1 hy).1
    by_cases e : d = n
    · subst e; rw [List.getElem?_append_right (by omega), Nat.add_sub_cancel_left]; exact hy
    · have ih := fm_get n (by omega) hy
      have hl := (List.getElem?_eq_some_iff.1 ih).1
      rw [List.getElem?_append_left hl]; exact ih
theorem lsts_nil {n : Nat} : ∀ (m : Nat) (now : List Nat), 0 < m → n < nxt now + m → lsts n m now = []
  | 0, _, h, _ => by omega
  | m + 1, now, _, h => by
    simp only [lsts]
    rw [fm_more (d := 0) _ (Nat.zero_le _)]; rfl
    intro i _ hi
    rcases Nat.eq_zero_or_pos m with h0 | h0
    · omega
    · exact lsts_nil m _ h0 (by rw [nxt_app]; omega)
def seg (p : Pl) (m : Nat) (now : List Nat) : List (List Nat) := (lsts p.scenes.length m now).filter (isC p)
theorem seg_zero (p : Pl) (now : List Nat) : seg p 0 now = if isC p now = true then [now] else [] := by
  unfold seg; simp only [lsts]
  by_cases h : isC p now = true <;> simp [h]
def segF (p : Pl) (m : Nat) (now : List Nat) (i : Nat) : List (List Nat) := seg p m (now ++ [nxt now + i])
theorem seg_succ (p : Pl) (m : Nat) (now : List Nat) : seg p (m + 1) now = fm (p.scenes.length - nxt now) (segF p m now) := by
  unfold seg; simp only [lsts]; rw [fm_filter]; rfl
theorem seg_cut {p : Pl} {m : Nat} {now : List Nat} {d : Nat} (h1 : d ≤ p.scenes.length - nxt now) (h2 : p.scenes.length < nxt now + d + (m + 1)) : seg p (m + 1) now = fm d (segF p m now) := by
  rw [seg_succ]
  refine fm_more _ h1 fun i h3 h4 => ?_
  unfold segF seg
  rcases Nat.eq_zero_or_pos m with h0 | h0
  · omega
  · rw [lsts_nil m _ h0 (by rw [nxt_app]; omega)]; rfl
theorem allC_seg (p : Pl) : allC p = fm (p.scenes.length + 1) fun i => seg p (p.scenes.length - i) [] := rfl
theorem mem_cv {p : Pl} {now : List Nat} (h : ∀ x ∈ now, x < p.scenes.length) (hl : now.length ≤ 1000) : CV p now := ⟨hl, h⟩
end Ni
namespace Ni
structure WP (p : Pl) : Prop where
  len : p.scenes.length ≤ 10
  s0 : p.s0l ≤ p.s0h
  s1 : p.s1l ≤ p.s1h
  d : p.dl ≤ p.dh
  lm : ∀ x ∈ p.scenes, x.least ≤ x.most
theorem sum_le {α : Type} {f g : α → Int} : ∀ {l : List α}, (∀ x ∈ l, f x ≤ g x) → (l.map f).sum ≤ (l.map g).sum
  | [], _ => by simp
  | x :: l, h => by
    have := sum_le (l := l) (fun y hy => h y (List.mem_cons_of_mem _ hy))
    have := h x (by simp)
    simp only [List.map_cons, List.sum_cons]; omega
theorem lsum_le {p : Pl} {xs : List Nat} (wp : WP p) (cv : CV p xs) : lsum p xs ≤ hsum p xs :=
  sum_le fun x hx => wp.lm _ (scn_mem (cv.rng x hx))
theorem pl_le {p : Pl} {l : List Nat} (wp : WP p) (cv : CV p l) (k : Nat) : pl p l k ≤ ph p l k := lsum_le wp (ofP_cv cv k)
theorem pl_lo {p : Pl} {l : List Nat} (wp : WP p) (cv : CV p l) (k : Nat) : pl p l k = lo p l k 0 10 := lsum_of wp.len cv k
theorem ph_hi {p : Pl} {l : List Nat} (wp : WP p) (cv : CV p l) (k : Nat) : ph p l k = hi p l k 0 10 := hsum_of wp.len cv k
structure FitNi (p : Pl) (l : List Nat) (a b c : Int) : Prop where
  a1 : p.s0l ≤ a
  a2 : a ≤ p.s0h
  b1 : p.s1l ≤ b
  b2 : b ≤ p.s1h
  c1 : p.dl ≤ c
  c2 : c ≤ p.dh
  x1 : pl p l 0 ≤ a - p.beg
  x2 : a - p.beg ≤ ph p l 0
  y1 : pl p l 1 ≤ b - a
  y2 : b - a ≤ ph p l 1
  z1 : pl p l 2 ≤ c - b
  z2 : c - b ≤ ph p l 2
theorem mem_hrs {p : Pl} {l : List Nat} (wp : WP p) (cv : CV p l) {a b c : Int} : (a, b, c) ∈ hrs p l ↔ FitNi p l a b c := by
  have e0 := pl_lo wp cv 0; have e1 := pl_lo wp cv 1; have e2 := pl_lo wp cv 2
  have f0 := ph_hi wp cv 0; have f1 := ph_hi wp cv 1; have f2 := ph_hi wp cv 2
  have e0 : pl p l 0 = lo p l 0 0 10 := e0
  have e1 : pl p l 1 = lo p l 1 0 10 := e1
  have e2 : pl p l 2 = lo p l 2 0 10 := e2
  have f0 : ph p l 0 = hi p l 0 0 10 := f0
  have f1 : ph p l 1 = hi p l 1 0 10 := f1
  have f2 : ph p l 2 = hi p l 2 0 10 := f2
  constructor
  · intro h
    obtain ⟨i, hi, h⟩ := mem_fm.1 h
    unfold hA at h
    split at h
    · rename_i g0
      obtain ⟨j, hj, h⟩ := mem_fm.1 h
      unfold hB at h
      split at h
      · rename_i g1
        obtain ⟨k, hk, h⟩ := mem_fm.1 h
        unfold hC at h
        split at h
        · rename_i g2
          simp only [List.mem_singleton, Prod.mk.injEq] at h
          obtain ⟨rfl, rfl, rfl⟩ := h
          simp only [inn, Bool.and_eq_true, decide_eq_true_eq] at g0 g1 g2
          unfold wid at hi hj hk
          exact ⟨by omega, by omega, by omega, by omega, by omega, by omega, by omega, by omega, by omega, by omega, by omega, by omega⟩
        · simp at h
      · simp at h
    · simp at h
  · intro h
    obtain ⟨h1, h2, h3, h4, h5, h6, h7, h8, h9, h10, h11, h12⟩ := h
    refine mem_fm.2 ⟨(a - p.s0l).toNat, by unfold wid; omega, ?_⟩
    have ea : p.s0l + ((a - p.s0l).toNat : Int) = a := by omega
    unfold hA; rw [ea, if_pos (by simp only [inn, Bool.and_eq_true, decide_eq_true_eq]; omega)]
    refine mem_fm.2 ⟨(b - p.s1l).toNat, by unfold wid; omega, ?_⟩
    have eb : p.s1l + ((b - p.s1l).toNat : Int) = b := by omega
    unfold hB; rw [eb, if_pos (by simp only [inn, Bool.and_eq_true, decide_eq_true_eq]; omega)]
    refine mem_fm.2 ⟨(c - p.dl).toNat, by unfold wid; omega, ?_⟩
    have ec : p.dl + ((c - p.dl).toNat : Int) = c := by omega
    unfold hC; rw [ec, if_pos (by simp only [inn, Bool.and_eq_true, decide_eq_true_eq]; omega)]
    simp
theorem can_fit {p : Pl} {l : List Nat} (wp : WP p) (cv : CV p l) : can p l = true ↔ ∃ a b c, FitNi p l a b c := by
  unfold can
  rw [decide_eq_true_eq, List.length_pos_iff_exists_mem]
  constructor
  · rintro ⟨⟨a, b, c⟩, h⟩; exact ⟨a, b, c, (mem_hrs wp cv).1 h⟩
  · rintro ⟨a, b, c, h⟩; exact ⟨(a, b, c), (mem_hrs wp cv).2 h⟩
theorem pick {lo hi L H t : Int} (h1 : lo ≤ hi) (h2 : L ≤ H) (h3 : lo + L ≤ t) (h4 : t ≤ hi + H) : ∃ s, lo ≤ s ∧ s ≤ hi ∧ L ≤ t - s ∧ t - s ≤ H :=
  ⟨max lo (t - H), by omega, by omega, by omega, by omega⟩
theorem ffail_iff {p : Pl} {l : List Nat} : ffail p l = none ↔ flt p l 0 = 0 ∧ flt p l 1 = 0 ∧ flt p l 2 = 0 := by
  unfold ffail
  by_cases h0 : flt p l 0 = 0
  · by_cases h1 : flt p l 1 = 0
    · by_cases h2 : flt p l 2 = 0 <;> simp [h0, h1, h2]
    · simp [h0, h1]
  · simp [h0]
theorem flt_zero {p : Pl} {l : List Nat} {k : Nat} : flt p l k = 0 ↔ wl p k ≤ (fw p l k).2 + ph p l k ∧ (fw p l k).1 + pl p l k ≤ wh p k := by
  unfold flt
  split
  · constructor
    · intro h; cases h
    · intro h; omega
  · split
    · constructor
      · intro h; cases h
      · intro h; omega
    · constructor
      · intro _; omega
      · intro _; rfl
theorem win_le {p : Pl} (wp : WP p) (k : Nat) : wl p k ≤ wh p k := by
  unfold wl wh
  split
  · exact wp.s0
  · split
    · exact wp.s1
    · exact wp.d
theorem fw_le {p : Pl} {l : List Nat} (wp : WP p) (cv : CV p l) : ∀ k, (∀ j, j < k → flt p l j = 0) → (fw p l k).1 ≤ (fw p l k).2
  | 0, _ => Int.le_refl _
  | k + 1, h => by
    have ih := fw_le wp cv k fun j hj => h j (by omega)
    have h1 := flt_zero.1 (h k (by omega))
    have h2 := win_le wp k
    have h3 := pl_le wp cv k
    simp only [fw]; omega
theorem can_ffail {p : Pl} {l : List Nat} (wp : WP p) (cv : CV p l) : can p l = true ↔ ffail p l = none := by
  rw [can_fit wp cv, ffail_iff]
  have w0 : wl p 0 = p.s0l := rfl
  have w0' : wh p 0 = p.s0h := rfl
  have w1 : wl p 1 = p.s1l := rfl
  have w1' : wh p 1 = p.s1h := rfl
  have w2 : wl p 2 = p.dl := rfl
  have w2' : wh p 2 = p.dh := rfl
  have e1 : fw p l 0 = (p.beg, p.beg) := rfl
  constructor
  · rintro ⟨a, b, c, h⟩
    obtain ⟨h1, h2, h3, h4, h5, h6, h7, h8, h9, h10, h11, h12⟩ := h
    rw [flt_zero, flt_zero, flt_zero]
    simp only [fw, w0, w0', w1, w1', w2, w2']
    omega
  · rintro ⟨g0, g1, g2⟩
    have hz : ∀ j, j < 3 → flt p l j = 0 := fun j hj => by rcases j with _ | _ | _ | j; exact g0; exact g1; exact g2; omega
    have l1 := fw_le wp cv 1 fun j hj => hz j (by omega)
    have l2 := fw_le wp cv 2 fun j hj => hz j (by omega)
    have l3 := fw_le wp cv 3 fun j hj => hz j (by omega)
    have q0 := pl_le wp cv 0; have q1 := pl_le wp cv 1; have q2 := pl_le wp cv 2
    have f1 : fw p l 1 = (max (p.beg + pl p l 0) p.s0l, min (p.beg + ph p l 0) p.s0h) := rfl
    have f2 : fw p l 2 = (max ((fw p l 1).1 + pl p l 1) p.s1l, min ((fw p l 1).2 + ph p l 1) p.s1h) := rfl
    have f3 : fw p l 3 = (max ((fw p l 2).1 + pl p l 2) p.dl, min ((fw p l 2).2 + ph p l 2) p.dh) := rfl
    rw [f3] at l3
    simp only at l3
    obtain ⟨b, b1, b2, b3, b4⟩ := pick (t := max ((fw p l 2).1 + pl p l 2) p.dl) l2 q2 (by omega) (by omega)
    have b1' := b1; have b2' := b2
    rw [f2] at b1' b2'
    simp only at b1' b2'
    obtain ⟨a, a1, a2, a3, a4⟩ := pick (t := b) l1 q1 (by omega) (by omega)
    rw [f1] at a1 a2
    simp only at a1 a2
    exact ⟨a, b, max ((fw p l 2).1 + pl p l 2) p.dl, by omega, by omega, by omega, by omega, by omega, by omega, by omega, by omega, by omega, by omega, by omega, by omega⟩
theorem gp_of_ok {p : Pl} (h : PlOK p = true) : GP p ∧ WP p := by
  simp only [PlOK, wnd, inn, Bool.and_eq_true, decide_eq_true_eq] at h
  obtain ⟨⟨⟨⟨⟨h1, h2⟩, h3⟩, h4⟩, h5⟩, h6⟩ := h
  have hs : ∀ x ∈ p.scenes, 1 ≤ x.least ∧ x.least ≤ 240 ∧ x.least ≤ x.most ∧ x.most ≤ 240 := fun x hx => by
    obtain ⟨i, hi, rfl⟩ := List.getElem_of_mem hx
    have := h6.1 i hi
    simp only [scBad, inn, Bool.or_eq_false_iff, Bool.not_eq_false', Bool.and_eq_true, decide_eq_true_eq] at this
    omega
  exact ⟨⟨by omega, fun x hx => by have := hs x hx; omega, by omega, by omega, by omega, by omega, by omega, by omega, by omega⟩, ⟨by omega, by omega, by omega, by omega, fun x hx => (hs x hx).2.2.1⟩⟩
theorem fixP_wp {p : Pl} (wp : WP p) (k : Nat) (n : Int) : WP (fixP p k n) := ⟨by rw [fixP_len]; exact wp.len, wp.s0, wp.s1, wp.d, fun x hx => by
  rcases List.mem_or_eq_of_mem_set hx with h1 | h1
  · exact wp.lm x h1
  · subst h1; exact Int.le_refl _⟩
end Ni
namespace Ni
def wd : List (Int × Int) → Int × Int
  | [] => (0, 0)
  | v :: vs => vs.foldl (fun a b => (min a.1 b.1, max a.2 b.2)) v
def endV (p : Pl) (k : Nat) (l : List Nat) : Int × Int := (max (fw p l (k + 1)).1 (bw p l (2 - k)).1, min (fw p l (k + 1)).2 (bw p l (2 - k)).2)
def endT (p : Pl) (k i : Nat) : Int × Int := wd (((choicesC p).take i).map (endV p k))
end Ni
namespace Ni
def lsBad (p : Pl) (l : List Nat) (ls : List Int) (i : Nat) (h : i < l.length) : Bool := !inn (ls.getD i 0) (scn p l[i]).least (scn p l[i]).most
def lastsP (p : Pl) (l : List Nat) (ls : List Int) : Bool := decide (l.length = ls.length) && okAll l.length (lsBad p l ls)
def pF (p : Pl) (l : List Nat) (ls : List Int) : Nat → Pl
  | 0 => p
  | i + 1 => fixP (pF p l ls i) (l.getD i 0) (ls.getD i 0)
def endI (p : Pl) (l : List Nat) (ls : List Int) (k : Int) : Nat → Int
  | 0 => p.beg
  | i + 1 => endI p l ls k i + (if (scn p (l.getD i 0)).part ≤ k then ls.getD i 0 else 0)
def endR (p : Pl) (l : List Nat) (ls : List Int) (k : Int) : Int := endI p l ls k l.length
theorem getD_at {α : Type} {l : List α} {i : Nat} (h : i < l.length) (d : α) : l.getD i d = l[i] := by rw [List.getD_eq_getElem?_getD, List.getElem?_eq_getElem h]; rfl
section
variable {p : Pl} {l : List Nat} {ls : List Int} (gp : GP p) (wp : WP p) (cv : CV p l) (inc : l.Pairwise (· < ·)) (h : lastsP p l ls = true) (hp : ∀ x ∈ l, 0 ≤ (scn p x).part ∧ (scn p x).part ≤ 2)
include cv inc
include hp
include gp wp h
end
end Ni
namespace Hd
open Ni (inn)
structure Rg where
  kinds : List Int
  hides : List (List Int)
  al : Int
  ah : Int
  bl : Int
  bh : Int
  off : Int
  mends : Int
  deriving DecidableEq, Inhabited
structure Rt where
  a : Int
  b : Int
  deriving DecidableEq, Inhabited
def kd (r : Rg) (m : Nat) : Int := r.kinds.getD m 0
def sz (r : Rg) (h m : Nat) : Int := (r.hides.getD h []).getD m 0
def sl (r : Rg) (k : Nat) : Int := if k = 0 then r.al else r.bl
def rm (r : Rg) (x : Rt) (m : Nat) : Int := if kd r m = 1 then x.a else x.b
def lo (off long : Int) : Int := max 0 ((long - 1000 * off + 999).tdiv 1000)
def hi (off long : Int) : Int := min 1000 ((long + 1000 * off).tdiv 1000)
def nums (q : Nat → Bool) (n : Nat) : List Int := ((List.range n).filter q).map fun (i : Nat) => (i : Int)
def rng (a b : Int) : List Int := (List.range (b - a + 1).toNat).map fun (i : Nat) => a + (i : Int)
def least (top : Int) : List Int → Int
  | [] => top
  | x :: l => min x (least top l)
end Hd
namespace Hd
open Ni (inn)
structure RgB (r : Rg) : Prop where
  nk : 1 ≤ r.kinds.length ∧ r.kinds.length ≤ 6
  nh : 1 ≤ r.hides.length ∧ r.hides.length ≤ 6
  a : (700 ≤ r.al ∧ r.al ≤ 1300) ∧ (r.al ≤ r.ah ∧ r.ah ≤ 1300) ∧ r.ah - r.al ≤ 40
  b : (700 ≤ r.bl ∧ r.bl ≤ 1300) ∧ (r.bl ≤ r.bh ∧ r.bh ≤ 1300) ∧ r.bh - r.bl ≤ 40
  off : 1 ≤ r.off ∧ r.off ≤ 5
  mends : 0 ≤ r.mends ∧ r.mends ≤ 2
  kd : ∀ m, m < r.kinds.length → kd r m = 1 ∨ kd r m = 2
  hl : ∀ h, (hh : h < r.hides.length) → r.hides[h].length = r.kinds.length
  sz : ∀ h m, h < r.hides.length → m < r.kinds.length → 1 ≤ sz r h m ∧ sz r h m ≤ 500
theorem getD_at {α : Type} {l : List α} {i : Nat} {d : α} (h : i < l.length) : l.getD i d = l[i] := by simp [List.getD, List.getElem?_eq_getElem h]
def lex : List Int → List Int → Bool
  | [], [] => false
  | [], _ :: _ => true
  | _ :: _, [] => false
  | x :: a, y :: b => if x = y then lex a b else decide (x < y)
section best
variable {α : Type} (c : α → List Int)
end best
theorem lex_irr : ∀ a : List Int, lex a a = false
  | [] => rfl
  | x :: a => by simp [lex, lex_irr a]
theorem lex_trans : ∀ {a b c : List Int}, lex a b = true → lex b c = true → lex a c = true
  | [], [], _, h, _ => by simp [lex] at h
  | [], _ :: _, [], _, h => by simp [lex] at h
  | [], _ :: _, _ :: _, _, _ => rfl
  | _ :: _, [], _, h, _ => by simp [lex] at h
  | _ :: _, _ :: _, [], _, h => by simp [lex] at h
  | x :: a, y :: b, z :: c, h1, h2 => by
    simp only [lex] at h1 h2 ⊢
    by_cases e1 : x = y
    · subst e1
      rw [if_pos rfl] at h1
      by_cases e2 : x = z
      · subst e2; rw [if_pos rfl] at h2 ⊢; exact lex_trans h1 h2
      · rw [if_neg e2] at h2 ⊢; exact h2
    · rw [if_neg e1, decide_eq_true_eq] at h1
      by_cases e2 : y = z
      · subst e2; rw [if_neg e1, decide_eq_true_eq]; exact h1
      · rw [if_neg e2, decide_eq_true_eq] at h2
        rw [if_neg (by omega), decide_eq_true_eq]; omega
theorem lex_total : ∀ {a b : List Int}, lex a b = false → lex b a = false → a = b
  | [], [], _, _ => rfl
  | [], _ :: _, h, _ => by simp [lex] at h
  | _ :: _, [], _, h => by simp [lex] at h
  | x :: a, y :: b, h1, h2 => by
    simp only [lex] at h1 h2
    by_cases e : x = y
    · subst e; rw [if_pos rfl] at h1 h2; rw [lex_total h1 h2]
    · rw [if_neg e, decide_eq_false_iff_not] at h1
      rw [if_neg (Ne.symm e), decide_eq_false_iff_not] at h2
      omega
end Hd
namespace Hd
open Ni (inn)
def him (r : Rg) (h m : Nat) (x : Rt) : Int := hi r.off (sz r h m * rm r x m)
end Hd
namespace Hd
open Ni (inn)
def kp (r : Rg) (m : Nat) : Nat := (kd r m - 1).toNat
end Hd
namespace Hd
open Ni (inn)
def plan (ok : List Int → Bool) : Nat → List Int → List Int → Option (List Int)
  | 0, _, now => if ok now = true then some now else none
  | _ + 1, [], _ => none
  | many + 1, c :: cs, now => match plan ok many cs (now ++ [c]) with
    | some l => some l
    | none => plan ok (many + 1) cs now
end Hd
namespace Hd
open Ni (inn)
def tk (f : List Int) (n : Nat) : List Int := nums (fun m => decide (0 ≤ f.getD m 0)) n
end Hd
namespace Hd
open Ni (inn)
def msOK (n : Nat) (l : List Int) : Prop := l.Pairwise (· < ·) ∧ ∀ x ∈ l, 0 ≤ x ∧ x < n
end Hd
namespace Hd
open Ni (inn)
def ixQ {α : Type} (q : α → Bool) (E : List α) : Int := match E.findIdx? q with | some i => i | none => -1
theorem ixQ_at {α : Type} {q : α → Bool} {E : List α} {k : Nat} (hk : k < E.length) (h : q E[k] = true) (ok : ∀ i, (hi : i < E.length) → i < k → q E[i] = false) : ixQ q E = k := by
  have : E.findIdx? q = some k := List.findIdx?_eq_some_iff_getElem.2 ⟨hk, h, fun j hj => by simp [ok j (by omega) hj]⟩
  unfold ixQ; rw [this]
theorem ixQ_no {α : Type} {q : α → Bool} {E : List α} (ok : ∀ i, (hi : i < E.length) → q E[i] = false) : ixQ q E = -1 := by
  have : E.findIdx? q = none := List.findIdx?_eq_none_iff.2 fun x hx => by
    obtain ⟨i, hi, rfl⟩ := List.getElem_of_mem hx; exact ok i hi
  unfold ixQ; rw [this]
theorem ixQ_any {α : Type} (q : α → Bool) (E : List α) : decide (ixQ q E ≥ 0) = E.any q := by
  unfold ixQ
  cases h : E.findIdx? q with
  | none =>
    have := List.findIdx?_eq_none_iff.1 h
    rw [List.any_eq_false.2 fun x hx => by simp [this x hx]]; rfl
  | some i =>
    obtain ⟨h1, h2, _⟩ := List.findIdx?_eq_some_iff_getElem.1 h
    rw [List.any_eq_true.2 ⟨_, List.getElem_mem h1, h2⟩]; exact decide_eq_true (show (i : Int) ≥ 0 by omega)
theorem any_not {α : Type} (q : α → Bool) (l : List α) : (!(l.any fun x => !q x)) = l.all q := by
  rw [Bool.eq_iff_iff]; simp [List.all_eq_true]
end Hd
namespace Br
open Ni (inn)
open Hd (getD_at)
structure Scb where
  part : Int
  least : Int
  most : Int
  loose : Bool
  formula : Bool
  deriving DecidableEq, Inhabited
structure Rul where
  frm : Int
  to : List Int
  deriving DecidableEq, Inhabited
structure Sto where
  eps : Int
  scs : List Scb
  rules : List Rul
  deriving DecidableEq, Inhabited
def scbOK (x : Scb) : Bool := inn x.part 0 2 && (inn x.least 1 240 && inn x.most x.least 240)
def rulOK (s : Sto) (r : Rul) : Bool := inn r.frm 0 (s.eps - 1) && (inn r.to.length 1 4 && r.to.all fun n => inn n (r.frm + 1) (s.eps + s.scs.length - 1))
def parOK (s : Sto) : Bool := inn s.eps 1 6 && (inn s.scs.length 1 8 && (inn s.rules.length 1 10 && (s.scs.all scbOK && s.rules.all (rulOK s))))
structure ParB (s : Sto) : Prop where
  ep : 1 ≤ s.eps ∧ s.eps ≤ 6
  ns : 1 ≤ s.scs.length ∧ s.scs.length ≤ 8
  nr : 1 ≤ s.rules.length ∧ s.rules.length ≤ 10
  sc : ∀ x ∈ s.scs, (0 ≤ x.part ∧ x.part ≤ 2) ∧ (1 ≤ x.least ∧ x.least ≤ 240) ∧ x.least ≤ x.most ∧ x.most ≤ 240
  ru : ∀ r ∈ s.rules, (0 ≤ r.frm ∧ r.frm < s.eps) ∧ (1 ≤ r.to.length ∧ r.to.length ≤ 4) ∧ ∀ n ∈ r.to, r.frm < n ∧ n < s.eps + s.scs.length
theorem parOK_iff {s : Sto} : parOK s = true ↔ ParB s := by
  unfold parOK scbOK rulOK
  simp only [Bool.and_eq_true, inn, decide_eq_true_eq, List.all_eq_true]
  constructor
  · rintro ⟨h1, h2, h3, h4, h5⟩
    refine ⟨h1, by omega, by omega, fun x hx => ?_, fun r hr => ?_⟩
    · have := h4 x hx; omega
    · have h := h5 r hr
      exact ⟨by omega, by omega, fun n hn => by have := h.2.2 n hn; omega⟩
  · rintro ⟨h1, h2, h3, h4, h5⟩
    refine ⟨h1, by omega, by omega, fun x hx => ?_, fun r hr => ?_⟩
    · have := h4 x hx; omega
    · have h := h5 r hr
      exact ⟨by omega, by omega, fun n hn => by have := h.2.2 n hn; omega⟩
def prodN (l : List Nat) : Nat := l.foldr (· * ·) 1
theorem prodN_cons (a : Nat) (l : List Nat) : prodN (a :: l) = a * prodN l := rfl
theorem prodN_app : ∀ (a b : List Nat), prodN (a ++ b) = prodN a * prodN b
  | [], b => by simp [prodN]
  | x :: a, b => by rw [List.cons_append, prodN_cons, prodN_cons, prodN_app a b, Nat.mul_assoc]
theorem prodN_zero {l : List Nat} : prodN l = 0 ↔ 0 ∈ l := by
  induction l with
  | nil => simp [prodN]
  | cons a l ih => rw [prodN_cons, Nat.mul_eq_zero, ih, List.mem_cons]; constructor <;> rintro (h | h) <;> first | exact .inl h.symm | exact .inr h
def cntF (s : Sto) : Nat → Int → Nat
  | 0, m => if s.eps ≤ m then 1 else 0
  | d + 1, m => if s.eps ≤ m then 1 else ((s.rules.filter fun r => decide (r.frm = m)).map fun r => prodN (r.to.map (cntF s d))).sum
def cnt (s : Sto) (m : Int) : Nat := cntF s (s.eps - m).toNat m
theorem cntF_stab {s : Sto} (B : ParB s) : ∀ (d : Nat) (m : Int), (s.eps - m).toNat ≤ d → cntF s (d + 1) m = cntF s d m
  | 0, m, h => by
    have h1 : s.eps ≤ m := by omega
    unfold cntF; rw [if_pos h1, if_pos h1]
  | d + 1, m, h => by
    by_cases h1 : s.eps ≤ m
    · unfold cntF; rw [if_pos h1, if_pos h1]
    · rw [cntF, cntF, if_neg h1, if_neg h1]
      congr 1
      refine List.map_congr_left fun r hr => ?_
      have hr2 := List.mem_filter.1 hr
      have hm := of_decide_eq_true hr2.2
      congr 1
      refine List.map_congr_left fun n hn => ?_
      have := (B.ru r hr2.1).2.2 n hn
      exact cntF_stab B d n (by omega)
theorem cntF_ge {s : Sto} (B : ParB s) {m : Int} : ∀ {d : Nat}, (s.eps - m).toNat ≤ d → cntF s d m = cnt s m := by
  intro d h
  unfold cnt
  obtain ⟨e, rfl⟩ : ∃ e, d = (s.eps - m).toNat + e := ⟨d - (s.eps - m).toNat, by omega⟩
  clear h
  induction e with
  | zero => rfl
  | succ e ih => rw [← Nat.add_assoc, cntF_stab B _ _ (by omega), ih]
theorem cnt_scene {s : Sto} {m : Int} (h : s.eps ≤ m) : cnt s m = 1 := by
  unfold cnt
  rw [show (s.eps - m).toNat = 0 by omega]
  unfold cntF; rw [if_pos h]
def cntK (s : Sto) (m : Int) (k : Nat) : Nat := (((s.rules.take k).filter fun r => decide (r.frm = m)).map fun r => prodN (r.to.map (cnt s))).sum
theorem cnt_eps {s : Sto} (B : ParB s) {m : Int} (h0 : 0 ≤ m) (h : m < s.eps) : cnt s m = cntK s m s.rules.length := by
  unfold cnt cntK
  obtain ⟨d, hd⟩ : ∃ d, (s.eps - m).toNat = d + 1 := ⟨(s.eps - m).toNat - 1, by omega⟩
  rw [hd, cntF, if_neg (by omega), List.take_length]
  congr 1
  refine List.map_congr_left fun r hr => ?_
  have hr2 := List.mem_filter.1 hr
  have hm := of_decide_eq_true hr2.2
  congr 1
  refine List.map_congr_left fun n hn => ?_
  have := (B.ru r hr2.1).2.2 n hn
  exact cntF_ge B (by omega)
theorem cntK_zero (s : Sto) (m : Int) : cntK s m 0 = 0 := by simp [cntK]
theorem cntK_yes {s : Sto} {m : Int} {k : Nat} (hk : k < s.rules.length) (h : s.rules[k].frm = m) : cntK s m (k + 1) = cntK s m k + prodN (s.rules[k].to.map (cnt s)) := by
  unfold cntK
  rw [List.take_succ_eq_append_getElem hk, List.filter_append, List.map_append, List.sum_append]
  simp [h]
theorem cntK_no {s : Sto} {m : Int} {k : Nat} (hk : k < s.rules.length) (h : s.rules[k].frm ≠ m) : cntK s m (k + 1) = cntK s m k := by
  unfold cntK
  rw [List.take_succ_eq_append_getElem hk, List.filter_append, List.map_append, List.sum_append]
  simp [h]
def cap (c a : Nat) : Nat := min c a
theorem cap_add (c a b : Nat) : cap c (cap c a + cap c b) = cap c (a + b) := by unfold cap; omega
theorem cap_mul {c : Nat} (hc : 0 < c) (a b : Nat) : cap c (cap c a * cap c b) = cap c (a * b) := by
  unfold cap
  rcases Nat.lt_or_ge a c with ha | ha
  · have ea : min c a = a := Nat.min_eq_right (Nat.le_of_lt ha)
    rcases Nat.lt_or_ge b c with hb | hb
    · have eb : min c b = b := Nat.min_eq_right (Nat.le_of_lt hb)
      rw [ea, eb]
    · have eb : min c b = c := Nat.min_eq_left hb
      rw [ea, eb]
      rcases Nat.eq_zero_or_pos a with h | h
      · subst h; simp
      · have h1 : c ≤ a * c := Nat.le_mul_of_pos_left c h
        have h2 : c ≤ a * b := Nat.le_trans h1 (Nat.mul_le_mul_left a hb)
        rw [Nat.min_eq_left h1, Nat.min_eq_left h2]
  · have ea : min c a = c := Nat.min_eq_left ha
    rcases Nat.eq_zero_or_pos b with h | h
    · subst h; simp
    · have h3 : c ≤ a * b := Nat.le_trans ha (Nat.le_mul_of_pos_right a h)
      have h4 : 0 < min c b := by omega
      rw [ea, Nat.min_eq_left h3, Nat.min_eq_left (Nat.le_mul_of_pos_right c h4)]
theorem cap_le (c a : Nat) : cap c a ≤ c := Nat.min_le_left _ _
theorem cap_zero {c a : Nat} (hc : 0 < c) : cap c a = 0 ↔ a = 0 := by unfold cap; omega
theorem cap_cap {c d a : Nat} (h : c ≤ d) : cap c (cap d a) = cap c a := by unfold cap; omega
def endR (s : Sto) (r : Rul) : Bool := r.to.all fun n => !decide (cnt s n = 0)
theorem endR_iff {s : Sto} {r : Rul} : endR s r = true ↔ prodN (r.to.map (cnt s)) ≠ 0 := by
  unfold endR
  rw [ne_eq, prodN_zero, List.all_eq_true]
  constructor
  · intro h hm
    obtain ⟨n, hn, e⟩ := List.mem_map.1 hm
    have := h n hn
    rw [e] at this; simp at this
  · intro h n hn
    rw [Bool.not_eq_true', decide_eq_false_iff_not]
    exact fun e => h (List.mem_map.2 ⟨n, hn, e⟩)
def maxN (l : List Nat) : Nat := l.foldl max 0
theorem maxN_app (l : List Nat) (a : Nat) : maxN (l ++ [a]) = max (maxN l) a := by unfold maxN; rw [List.foldl_append]; rfl
theorem foldl_max (l : List Nat) : ∀ a, l.foldl max a = max a (l.foldl max 0) := by
  induction l with
  | nil => simp
  | cons b l ih => intro a; rw [List.foldl_cons, List.foldl_cons, ih, ih (max 0 b)]; omega
theorem maxN_le {l : List Nat} {a : Nat} (h : a ∈ l) : a ≤ maxN l := by
  unfold maxN
  induction l with
  | nil => cases h
  | cons b l ih =>
    rw [List.foldl_cons, foldl_max]
    rcases List.mem_cons.1 h with rfl | h
    · omega
    · have := ih h; omega
def lngF (s : Sto) : Nat → Int → Nat
  | 0, m => if s.eps ≤ m then 1 else 0
  | d + 1, m => if s.eps ≤ m then 1 else maxN ((s.rules.filter fun r => decide (r.frm = m) && endR s r).map fun r => (r.to.map (lngF s d)).sum)
def lng (s : Sto) (m : Int) : Nat := lngF s (s.eps - m).toNat m
theorem lngF_stab {s : Sto} (B : ParB s) : ∀ (d : Nat) (m : Int), (s.eps - m).toNat ≤ d → lngF s (d + 1) m = lngF s d m
  | 0, m, h => by
    have h1 : s.eps ≤ m := by omega
    unfold lngF; rw [if_pos h1, if_pos h1]
  | d + 1, m, h => by
    by_cases h1 : s.eps ≤ m
    · unfold lngF; rw [if_pos h1, if_pos h1]
    · rw [lngF, lngF, if_neg h1, if_neg h1]
      congr 1
      refine List.map_congr_left fun r hr => ?_
      have hr2 := List.mem_filter.1 hr
      have hm := of_decide_eq_true ((Bool.and_eq_true _ _).mp hr2.2).1
      congr 1
      refine List.map_congr_left fun n hn => ?_
      have := (B.ru r hr2.1).2.2 n hn
      exact lngF_stab B d n (by omega)
theorem lngF_ge {s : Sto} (B : ParB s) {m : Int} : ∀ {d : Nat}, (s.eps - m).toNat ≤ d → lngF s d m = lng s m := by
  intro d h
  unfold lng
  obtain ⟨e, rfl⟩ : ∃ e, d = (s.eps - m).toNat + e := ⟨d - (s.eps - m).toNat, by omega⟩
  clear h
  induction e with
  | zero => rfl
  | succ e ih => rw [← Nat.add_assoc, lngF_stab B _ _ (by omega), ih]
theorem lng_scene {s : Sto} {m : Int} (h : s.eps ≤ m) : lng s m = 1 := by
  unfold lng
  rw [show (s.eps - m).toNat = 0 by omega]
  unfold lngF; rw [if_pos h]
def lngK (s : Sto) (m : Int) (k : Nat) : Nat := maxN (((s.rules.take k).filter fun r => decide (r.frm = m) && endR s r).map fun r => (r.to.map (lng s)).sum)
theorem lng_eps {s : Sto} (B : ParB s) {m : Int} (h0 : 0 ≤ m) (h : m < s.eps) : lng s m = lngK s m s.rules.length := by
  unfold lng lngK
  obtain ⟨d, hd⟩ : ∃ d, (s.eps - m).toNat = d + 1 := ⟨(s.eps - m).toNat - 1, by omega⟩
  rw [hd, lngF, if_neg (by omega), List.take_length]
  congr 1
  refine List.map_congr_left fun r hr => ?_
  have hr2 := List.mem_filter.1 hr
  have hm := of_decide_eq_true ((Bool.and_eq_true _ _).mp hr2.2).1
  congr 1
  refine List.map_congr_left fun n hn => ?_
  have := (B.ru r hr2.1).2.2 n hn
  exact lngF_ge B (by omega)
theorem lngK_zero (s : Sto) (m : Int) : lngK s m 0 = 0 := by simp [lngK, maxN]
theorem lngK_yes {s : Sto} {m : Int} {k : Nat} (hk : k < s.rules.length) (h : s.rules[k].frm = m) (he : endR s s.rules[k] = true) : lngK s m (k + 1) = max (lngK s m k) (s.rules[k].to.map (lng s)).sum := by
  unfold lngK
  rw [List.take_succ_eq_append_getElem hk, List.filter_append, List.map_append, ← maxN_app]
  simp [h, he]
theorem lngK_no {s : Sto} {m : Int} {k : Nat} (hk : k < s.rules.length) (h : ¬ (s.rules[k].frm = m ∧ endR s s.rules[k] = true)) : lngK s m (k + 1) = lngK s m k := by
  unfold lngK
  rw [List.take_succ_eq_append_getElem hk, List.filter_append, List.map_append]
  have : (decide (s.rules[k].frm = m) && endR s s.rules[k]) = false := by
    rw [Bool.eq_false_iff]; intro q; rw [Bool.and_eq_true, decide_eq_true_eq] at q; exact h q
  simp [this]
def stoOK (s : Sto) : Bool := parOK s && (decide (cnt s 0 ≤ 40) && decide (lng s 0 ≤ 10))
end Br
namespace Br
open Ni (inn)
open Hd (getD_at lex lex_irr lex_trans lex_total)
def fstE (s : Sto) (form : List Int) : Option Nat := form.findIdx? fun n => decide (n < s.eps)
def putF (form : List Int) (i : Nat) (to : List Int) : List Int := form.take i ++ (to ++ form.drop (i + 1))
theorem fstE_some {s : Sto} {form : List Int} {i : Nat} (h : fstE s form = some i) : ∃ hi : i < form.length, form[i] < s.eps ∧ ∀ j, (hj : j < i) → s.eps ≤ form[j]'(by omega) := by
  unfold fstE at h
  obtain ⟨h1, h2, h3⟩ := List.findIdx?_eq_some_iff_getElem.1 h
  exact ⟨h1, of_decide_eq_true h2, fun j hj => by have := h3 j hj; simp at this; exact this⟩
theorem fstE_none {s : Sto} {form : List Int} (h : fstE s form = none) : ∀ n ∈ form, s.eps ≤ n := by
  unfold fstE at h
  rw [List.findIdx?_eq_none_iff] at h
  intro n hn
  have := h n hn
  simpa using this
theorem put_split {form : List Int} {i : Nat} (hi : i < form.length) : form = form.take i ++ (form[i] :: form.drop (i + 1)) := by
  rw [← List.drop_eq_getElem_cons hi, List.take_append_drop]
def wtM (s : Sto) (n : Int) : Nat := if n < s.eps then 5 ^ (s.eps - n).toNat else 0
def wt (s : Sto) (form : List Int) : Nat := (form.map (wtM s)).sum
theorem wt_to {s : Sto} {m : Int} (hm : m < s.eps) : ∀ {to : List Int}, (∀ n ∈ to, m < n) → wt s to ≤ to.length * 5 ^ ((s.eps - m).toNat - 1)
  | [], _ => by simp [wt]
  | n :: to, h => by
    have ih := wt_to hm (to := to) fun k hk => h k (List.mem_cons_of_mem _ hk)
    have h1 := h n List.mem_cons_self
    have h2 : wtM s n ≤ 5 ^ ((s.eps - m).toNat - 1) := by
      unfold wtM
      split
      · exact Nat.pow_le_pow_right (by decide) (by omega)
      · exact Nat.zero_le _
    unfold wt at ih ⊢
    rw [List.map_cons, List.sum_cons, List.length_cons, Nat.succ_mul]; omega
theorem wt_put {s : Sto} (B : ParB s) {form : List Int} {i : Nat} (hi : i < form.length) (hm : form[i] < s.eps) {r : Rul} (hr : r ∈ s.rules) (hf : r.frm = form[i]) : wt s (putF form i r.to) < wt s form := by
  have h1 := (B.ru r hr).2
  have h2 := wt_to (s := s) (m := form[i]) hm (to := r.to) fun n hn => by have := (h1.2 n hn).1; omega
  have h3 : wt s r.to < wtM s form[i] := by
    unfold wtM; rw [if_pos hm]
    obtain ⟨e, he⟩ : ∃ e, (s.eps - form[i]).toNat = e + 1 := ⟨(s.eps - form[i]).toNat - 1, by omega⟩
    rw [he, Nat.add_sub_cancel] at h2
    rw [he, Nat.pow_succ]
    have h4 : 0 < 5 ^ e := Nat.pow_pos (by decide)
    have h5 : r.to.length * 5 ^ e ≤ 4 * 5 ^ e := Nat.mul_le_mul_right _ h1.1.2
    omega
  have e1 : wt s form = wt s (form.take i) + (wtM s form[i] + wt s (form.drop (i + 1))) := by
    conv => lhs; rw [put_split hi]
    unfold wt; rw [List.map_append, List.sum_append, List.map_cons, List.sum_cons]
  have e2 : wt s (putF form i r.to) = wt s (form.take i) + (wt s r.to + wt s (form.drop (i + 1))) := by
    unfold wt putF; rw [List.map_append, List.sum_append, List.map_append, List.sum_append]
  omega
abbrev Drv := List Int × List Int
def takes (s : Sto) (m : Int) (r : Rul) : Bool := decide (r.frm = m) && endR s r
def dvF (s : Sto) : Nat → List Int → List Int → List Drv
  | 0, _, _ => []
  | d + 1, form, rs => match fstE s form with
    | none => [(rs, form.map fun n => n - s.eps)]
    | some i => (List.range s.rules.length).flatMap fun n => if takes s (form.getD i 0) (s.rules.getD n ⟨0, []⟩) = true then dvF s d (putF form i (s.rules.getD n ⟨0, []⟩).to) (rs ++ [(n : Int)]) else []
def dv (s : Sto) (form rs : List Int) : List Drv := dvF s (wt s form + 1) form rs
theorem wt_getD {s : Sto} (B : ParB s) {form : List Int} {i : Nat} (hi : i < form.length) (hm : form[i] < s.eps) {n : Nat} (ht : takes s (form.getD i 0) (s.rules.getD n ⟨0, []⟩) = true) : wt s (putF form i (s.rules.getD n ⟨0, []⟩).to) < wt s form := by
  unfold takes at ht
  rw [Bool.and_eq_true, decide_eq_true_eq, getD_at hi] at ht
  rcases Nat.lt_or_ge n s.rules.length with hn | hn
  · have e2 : s.rules.getD n ⟨0, []⟩ = s.rules[n] := getD_at hn
    rw [e2] at ht ⊢
    exact wt_put B hi hm (List.getElem_mem hn) ht.1
  · have e2 : s.rules.getD n ⟨0, []⟩ = ⟨0, []⟩ := by simp [List.getD, List.getElem?_eq_none hn]
    rw [e2]
    show wt s (putF form i []) < wt s form
    have e1 : wt s form = wt s (form.take i) + (wtM s form[i] + wt s (form.drop (i + 1))) := by
      conv => lhs; rw [put_split hi]
      unfold wt; rw [List.map_append, List.sum_append, List.map_cons, List.sum_cons]
    have e2 : wt s (putF form i []) = wt s (form.take i) + wt s (form.drop (i + 1)) := by
      unfold wt putF; rw [List.nil_append, List.map_append, List.sum_append]
    have e4 : 0 < wtM s form[i] := by unfold wtM; rw [if_pos hm]; exact Nat.pow_pos (by decide)
    omega
theorem flat_congr {α β : Type} {f g : α → List β} : ∀ {l : List α}, (∀ x ∈ l, f x = g x) → l.flatMap f = l.flatMap g
  | [], _ => rfl
  | a :: l, h => by rw [List.flatMap_cons, List.flatMap_cons, h a List.mem_cons_self, flat_congr fun x hx => h x (List.mem_cons_of_mem _ hx)]
theorem dvF_stab {s : Sto} (B : ParB s) : ∀ (d : Nat) (form rs : List Int), wt s form < d → dvF s (d + 1) form rs = dvF s d form rs
  | 0, form, rs, h => by omega
  | d + 1, form, rs, h => by
    rw [dvF, dvF]
    cases e : fstE s form with
    | none => rfl
    | some i =>
      simp only
      obtain ⟨hi, hm, _⟩ := fstE_some e
      refine flat_congr fun n _ => ?_
      split
      · rename_i ht
        have := wt_getD B hi hm ht
        exact dvF_stab B d _ _ (by omega)
      · rfl
theorem dvF_ge {s : Sto} (B : ParB s) {form rs : List Int} : ∀ {d : Nat}, wt s form < d → dvF s d form rs = dv s form rs := by
  intro d h
  unfold dv
  obtain ⟨e, rfl⟩ : ∃ e, d = wt s form + 1 + e := ⟨d - (wt s form + 1), by omega⟩
  clear h
  induction e with
  | zero => rfl
  | succ e ih => rw [← Nat.add_assoc, dvF_stab B _ _ _ (by omega), ih]
theorem dv_none {s : Sto} {form rs : List Int} (h : fstE s form = none) : dv s form rs = [(rs, form.map fun n => n - s.eps)] := by
  unfold dv; rw [dvF, h]
def dvK (s : Sto) (form rs : List Int) (i k : Nat) : List Drv := (List.range k).flatMap fun n => if takes s (form.getD i 0) (s.rules.getD n ⟨0, []⟩) = true then dv s (putF form i (s.rules.getD n ⟨0, []⟩).to) (rs ++ [(n : Int)]) else []
theorem dv_some {s : Sto} (B : ParB s) {form rs : List Int} {i : Nat} (h : fstE s form = some i) : dv s form rs = dvK s form rs i s.rules.length := by
  obtain ⟨hi, hm, _⟩ := fstE_some h
  unfold dv dvK
  rw [dvF, h]
  simp only
  refine flat_congr fun n _ => ?_
  split
  · rename_i ht
    have := wt_getD B hi hm ht
    exact dvF_ge B (by omega)
  · rfl
theorem dvK_zero (s : Sto) (form rs : List Int) (i : Nat) : dvK s form rs i 0 = [] := rfl
theorem dvK_yes {s : Sto} {form rs : List Int} {i k : Nat} (hk : k < s.rules.length) (hi : i < form.length) (h : takes s form[i] s.rules[k] = true) : dvK s form rs i (k + 1) = dvK s form rs i k ++ dv s (putF form i s.rules[k].to) (rs ++ [(k : Int)]) := by
  unfold dvK
  have e : s.rules.getD k ⟨0, []⟩ = s.rules[k] := getD_at hk
  rw [List.range_succ, List.flatMap_append, List.flatMap_cons, List.flatMap_nil, List.append_nil, e, getD_at hi, if_pos h]
theorem dvK_no {s : Sto} {form rs : List Int} {i k : Nat} (hk : k < s.rules.length) (hi : i < form.length) (h : takes s form[i] s.rules[k] = false) : dvK s form rs i (k + 1) = dvK s form rs i k := by
  unfold dvK
  have e : s.rules.getD k ⟨0, []⟩ = s.rules[k] := getD_at hk
  rw [List.range_succ, List.flatMap_append, List.flatMap_cons, List.flatMap_nil, List.append_nil, e, getD_at hi, if_neg (by rw [h]; simp), List.append_nil]
theorem lng_take {s : Sto} (B : ParB s) {m : Int} (h0 : 0 ≤ m) (hm : m < s.eps) {r : Rul} (hr : r ∈ s.rules) (ht : takes s m r = true) : (r.to.map (lng s)).sum ≤ lng s m := by
  unfold takes at ht
  rw [lng_eps B h0 hm]
  unfold lngK
  refine maxN_le (List.mem_map.2 ⟨r, List.mem_filter.2 ⟨by rw [List.take_length]; exact hr, ht⟩, rfl⟩)
theorem mem_sum {f : Int → Nat} : ∀ {l : List Int} {a : Int}, a ∈ l → f a ≤ (l.map f).sum
  | b :: l, a, h => by
    rw [List.map_cons, List.sum_cons]
    rcases List.mem_cons.1 h with rfl | h
    · omega
    · have := mem_sum (f := f) h; omega
theorem lng_pos {s : Sto} (B : ParB s) : ∀ (d : Nat) {m : Int}, (s.eps - m).toNat ≤ d → 0 ≤ m → cnt s m ≠ 0 → 1 ≤ lng s m
  | 0, m, h, _, _ => by rw [lng_scene (by omega)]; exact Nat.le_refl _
  | d + 1, m, h, h0, hc => by
    rcases Int.lt_or_le m s.eps with hm | hm
    · rw [cnt_eps B h0 hm] at hc
      have hex : ∃ r ∈ s.rules, r.frm = m ∧ prodN (r.to.map (cnt s)) ≠ 0 := by
        by_cases q : ∃ r ∈ s.rules, r.frm = m ∧ prodN (r.to.map (cnt s)) ≠ 0
        · exact q
        · exfalso; apply hc
          unfold cntK
          have : ∀ x ∈ ((s.rules.take s.rules.length).filter fun r => decide (r.frm = m)).map fun r => prodN (r.to.map (cnt s)), x = 0 := fun x hx => by
            obtain ⟨r, hr, rfl⟩ := List.mem_map.1 hx
            have hr2 := List.mem_filter.1 hr
            by_cases q2 : prodN (r.to.map (cnt s)) = 0
            · exact q2
            · exact absurd ⟨r, List.mem_of_mem_take hr2.1, of_decide_eq_true hr2.2, q2⟩ q
          generalize ((s.rules.take s.rules.length).filter fun r => decide (r.frm = m)).map (fun r => prodN (r.to.map (cnt s))) = l at this
          induction l with
          | nil => rfl
          | cons a l ih => rw [List.sum_cons, this a List.mem_cons_self, ih fun x hx => this x (List.mem_cons_of_mem _ hx)]
      obtain ⟨r, hr, e, hp⟩ := hex
      have hen := endR_iff.2 hp
      have h1 := lng_take B h0 hm hr (by unfold takes; rw [decide_eq_true e, hen]; rfl)
      have hto := (B.ru r hr).2
      refine Nat.le_trans ?_ h1
      have hl : 0 < r.to.length := by omega
      have hn := hto.2 r.to[0] (List.getElem_mem hl)
      have hc2 : cnt s r.to[0] ≠ 0 := by
        have := List.all_eq_true.1 hen _ (List.getElem_mem hl)
        simpa using this
      have := lng_pos B d (m := r.to[0]) (by omega) (by have := (B.ru r hr).1; omega) hc2
      have h3 := mem_sum (f := lng s) (List.getElem_mem hl)
      omega
    · rw [lng_scene hm]; exact Nat.le_refl _
structure FrmB (s : Sto) (form : List Int) : Prop where
  mem : ∀ n ∈ form, 0 ≤ n ∧ n < s.eps + s.scs.length
  sum : (form.map (lng s)).sum ≤ 10
  one : form = [0] ∨ ∀ n ∈ form, 1 ≤ lng s n
theorem sum_len {f : Int → Nat} : ∀ {l : List Int}, (∀ n ∈ l, 1 ≤ f n) → l.length ≤ (l.map f).sum
  | [], _ => by simp
  | a :: l, h => by
    have := sum_len fun n hn => h n (List.mem_cons_of_mem _ hn)
    have := h a List.mem_cons_self
    rw [List.map_cons, List.sum_cons, List.length_cons]; omega
theorem FrmB.len {s : Sto} {form : List Int} (F : FrmB s form) : form.length ≤ 10 := by
  rcases F.one with rfl | h
  · decide
  · exact Nat.le_trans (sum_len h) F.sum
theorem FrmB.put {s : Sto} (B : ParB s) {form : List Int} (F : FrmB s form) {i : Nat} (hi : i < form.length) (hm : form[i] < s.eps) {r : Rul} (hr : r ∈ s.rules) (ht : takes s form[i] r = true) : FrmB s (putF form i r.to) := by
  have h0 := (F.mem _ (List.getElem_mem hi)).1
  have hl := lng_take B h0 hm hr ht
  have hto := (B.ru r hr)
  have hen : endR s r = true := by unfold takes at ht; rw [Bool.and_eq_true] at ht; exact ht.2
  have hone : ∀ n ∈ r.to, 1 ≤ lng s n := fun n hn => by
    have h1 := List.all_eq_true.1 hen n hn
    have h2 := (hto.2.2 n hn).1
    exact lng_pos B (s.eps - n).toNat (Nat.le_refl _) (by omega) (by simpa using h1)
  refine ⟨fun n hn => ?_, ?_, ?_⟩
  · unfold putF at hn
    rcases List.mem_append.1 hn with hn | hn
    · exact F.mem n (List.mem_of_mem_take hn)
    · rcases List.mem_append.1 hn with hn | hn
      · have := hto.2.2 n hn; omega
      · exact F.mem n (List.mem_of_mem_drop hn)
  · have e1 : (form.map (lng s)).sum = ((form.take i).map (lng s)).sum + (lng s form[i] + ((form.drop (i + 1)).map (lng s)).sum) := by
      conv => lhs; rw [put_split hi]
      rw [List.map_append, List.sum_append, List.map_cons, List.sum_cons]
    have := F.sum
    unfold putF
    rw [List.map_append, List.sum_append, List.map_append, List.sum_append]; omega
  · refine .inr fun n hn => ?_
    unfold putF at hn
    rcases F.one with rfl | h
    · obtain rfl : i = 0 := by simpa using hi
      simp at hn; exact hone n hn
    · rcases List.mem_append.1 hn with hn | hn
      · exact h n (List.mem_of_mem_take hn)
      · rcases List.mem_append.1 hn with hn | hn
        · exact hone n hn
        · exact h n (List.mem_of_mem_drop hn)
theorem frm_start {s : Sto} (B : ParB s) (h : lng s 0 ≤ 10) : FrmB s [0] := by
  have := B.ep; have := B.ns
  exact ⟨fun n hn => by obtain rfl := List.mem_singleton.1 hn; omega, by simpa using h, .inl rfl⟩
theorem dv_len {s : Sto} (B : ParB s) : ∀ (d : Nat) {form rs : List Int}, wt s form ≤ d → (∀ n ∈ form, 0 ≤ n) → (dv s form rs).length = prodN (form.map (cnt s)) := by
  intro d
  induction d using Nat.strongRecOn with
  | _ d ih =>
  intro form rs hd h0
  cases e : fstE s form with
  | none =>
    rw [dv_none e]
    have h := fstE_none e
    have : form.map (cnt s) = form.map fun _ => 1 := List.map_congr_left fun n hn => cnt_scene (h n hn)
    rw [this]
    clear this h hd h0 e
    induction form with
    | nil => rfl
    | cons a l ih2 => show 1 = prodN ((a :: l).map fun _ => 1); rw [List.map_cons, prodN_cons, Nat.one_mul]; exact ih2
  | some i =>
    obtain ⟨hi, hm, _⟩ := fstE_some e
    rw [dv_some B e]
    have hk : ∀ k, k ≤ s.rules.length → (dvK s form rs i k).length = prodN ((form.take i).map (cnt s)) * (cntK s form[i] k * prodN ((form.drop (i + 1)).map (cnt s))) := by
      intro k
      induction k with
      | zero => intro _; rw [cntK_zero]; simp [dvK_zero]
      | succ k ihk =>
        intro hk
        have hk2 : k < s.rules.length := by omega
        have ihk := ihk (by omega)
        by_cases hf : s.rules[k].frm = form[i]
        · rw [cntK_yes hk2 hf]
          cases ht : takes s form[i] s.rules[k] with
          | true =>
            have hw := wt_put B hi hm (List.getElem_mem hk2) hf
            rw [dvK_yes hk2 hi ht, List.length_append, ihk, ih (wt s (putF form i s.rules[k].to)) (by omega) (Nat.le_refl _) (fun n hn => by
              unfold putF at hn
              rcases List.mem_append.1 hn with hn | hn
              · exact h0 n (List.mem_of_mem_take hn)
              · rcases List.mem_append.1 hn with hn | hn
                · have := (B.ru _ (List.getElem_mem hk2)).2.2 n hn; have := (B.ru _ (List.getElem_mem hk2)).1; omega
                · exact h0 n (List.mem_of_mem_drop hn))]
            unfold putF
            rw [List.map_append, prodN_app, List.map_append, prodN_app, Nat.add_mul, Nat.mul_add]
          | false =>
            have hz : prodN (s.rules[k].to.map (cnt s)) = 0 := by
              by_cases q : prodN (s.rules[k].to.map (cnt s)) = 0
              · exact q
              · exfalso
                unfold takes at ht
                rw [decide_eq_true hf, endR_iff.2 q] at ht; cases ht
            rw [dvK_no hk2 hi ht, ihk, hz]; simp only [Nat.add_zero]
        · have ht : takes s form[i] s.rules[k] = false := by unfold takes; rw [decide_eq_false hf]; rfl
          rw [dvK_no hk2 hi ht, ihk, cntK_no hk2 hf]
    rw [hk _ (Nat.le_refl _), ← cnt_eps B (h0 _ (List.getElem_mem hi)) hm]
    conv => rhs; rw [put_split hi]
    rw [List.map_append, prodN_app, List.map_cons, prodN_cons]
end Br
namespace Br
open Ni (inn)
open Hd (getD_at lex lex_irr lex_trans lex_total)
theorem dv_play {s : Sto} (B : ParB s) : ∀ (d : Nat) {form rs : List Int}, wt s form ≤ d → FrmB s form → ∀ x ∈ dv s form rs, x.2.length ≤ 10 ∧ ∀ n ∈ x.2, 0 ≤ n ∧ n < s.scs.length := by
  intro d
  induction d using Nat.strongRecOn with
  | _ d ih =>
  intro form rs hd F x hx
  cases e : fstE s form with
  | none =>
    rw [dv_none e] at hx
    obtain rfl := List.mem_singleton.1 hx
    refine ⟨by simpa using F.len, fun n hn => ?_⟩
    obtain ⟨m, hm, rfl⟩ := List.mem_map.1 (show n ∈ form.map fun n => n - s.eps from hn)
    have := fstE_none e m hm
    have := F.mem m hm
    omega
  | some i =>
    obtain ⟨hi, hm, _⟩ := fstE_some e
    rw [dv_some B e] at hx
    unfold dvK at hx
    obtain ⟨n, hn, hx⟩ := List.mem_flatMap.1 hx
    have hn := List.mem_range.1 hn
    split at hx
    · rename_i ht
      have hw := wt_getD B hi hm ht
      have e2 : s.rules.getD n ⟨0, []⟩ = s.rules[n] := getD_at hn
      rw [e2] at ht hw hx
      rw [getD_at hi] at ht
      exact ih _ (by omega) (Nat.le_refl _) (F.put B hi hm (List.getElem_mem hn) ht) x hx
    · cases hx
def derP (s : Sto) : List (List Int) := (dv s [0] []).map Prod.snd
theorem derP_len {s : Sto} (B : ParB s) : (derP s).length = cnt s 0 := by
  unfold derP
  rw [List.length_map, dv_len B _ (Nat.le_refl _) (fun n hn => by rw [List.mem_singleton] at hn; omega)]
  simp [prodN]
theorem derP_mem {s : Sto} (B : ParB s) (h : lng s 0 ≤ 10) {l : List Int} (hl : l ∈ derP s) : l.length ≤ 10 ∧ ∀ n ∈ l, 0 ≤ n ∧ n < s.scs.length := by
  obtain ⟨x, hx, rfl⟩ := List.mem_map.1 hl
  exact dv_play B _ (Nat.le_refl _) (frm_start B h) x hx
def onceK (l : List (List Int)) (k : Nat) : List (List Int) := (l.take k).foldl (fun out x => if x ∈ out then out else out ++ [x]) []
theorem onceK_zero (l : List (List Int)) : onceK l 0 = [] := rfl
theorem onceK_succ {l : List (List Int)} {k : Nat} (h : k < l.length) : onceK l (k + 1) = if l[k] ∈ onceK l k then onceK l k else onceK l k ++ [l[k]] := by
  unfold onceK; rw [List.take_succ_eq_append_getElem h, List.foldl_append]; rfl
abbrev once (l : List (List Int)) : List (List Int) := onceK l l.length
theorem onceK_mem {l : List (List Int)} : ∀ {k : Nat}, k ≤ l.length → ∀ x, x ∈ onceK l k ↔ x ∈ l.take k
  | 0, _, x => by simp [onceK_zero]
  | k + 1, h, x => by
    have ih := onceK_mem (l := l) (k := k) (by omega) x
    rw [onceK_succ (by omega), List.take_succ_eq_append_getElem (by omega), List.mem_append, ← ih, List.mem_singleton]
    split
    · rename_i hm
      constructor
      · exact fun q => .inl q
      · rintro (q | rfl)
        · exact q
        · exact hm
    · rw [List.mem_append, List.mem_singleton]
theorem onceK_nodup {l : List (List Int)} : ∀ {k : Nat}, k ≤ l.length → (onceK l k).Nodup
  | 0, _ => by rw [onceK_zero]; exact List.nodup_nil
  | k + 1, h => by
    have ih := onceK_nodup (l := l) (k := k) (by omega)
    rw [onceK_succ (by omega)]
    split
    · exact ih
    · rename_i hm
      rw [List.nodup_append]
      exact ⟨ih, by simp, fun a ha b hb => by rw [List.mem_singleton] at hb; subst hb; exact fun e => hm (e ▸ ha)⟩
theorem onceK_len {l : List (List Int)} : ∀ {k : Nat}, k ≤ l.length → (onceK l k).length ≤ k
  | 0, _ => by rw [onceK_zero]; exact Nat.le_refl _
  | k + 1, h => by
    have ih := onceK_len (l := l) (k := k) (by omega)
    rw [onceK_succ (by omega)]
    split
    · omega
    · rw [List.length_append]; simp; omega
def leL (a b : List Int) : Bool := !lex b a
theorem leL_total (a b : List Int) : (leL a b || leL b a) = true := by
  unfold leL
  cases h : lex b a with
  | false => rfl
  | true =>
    cases h2 : lex a b with
    | false => rfl
    | true => have := lex_trans h h2; rw [lex_irr] at this; cases this
theorem leL_trans (a b c : List Int) (h1 : leL a b = true) (h2 : leL b c = true) : leL a c = true := by
  unfold leL at *
  rw [Bool.not_eq_true'] at *
  cases h3 : lex c a with
  | false => rfl
  | true =>
    cases h4 : lex a b with
    | true => have := lex_trans h3 h4; rw [h2] at this; cases this
    | false =>
      have e := lex_total h4 h1
      subst e; rw [h3] at h2; cases h2
def plays (s : Sto) : List (List Int) := (once (derP s)).mergeSort leL
theorem plays_perm (s : Sto) : (plays s).Perm (once (derP s)) := List.mergeSort_perm _ _
theorem plays_mem {s : Sto} {l : List Int} : l ∈ plays s ↔ l ∈ derP s := by
  rw [(plays_perm s).mem_iff, onceK_mem (Nat.le_refl _), List.take_length]
theorem plays_le (s : Sto) : (plays s).Pairwise fun a b => leL a b = true := List.pairwise_mergeSort leL_trans leL_total _
theorem plays_len {s : Sto} (B : ParB s) : (plays s).length ≤ cnt s 0 := by
  rw [(plays_perm s).length_eq, ← derP_len B]; exact onceK_len (Nat.le_refl _)
theorem sorted_eq {l m : List (List Int)} (hp : l.Perm m) (h1 : l.Pairwise fun a b => leL a b = true) (h2 : m.Pairwise fun a b => leL a b = true) : l = m := by
  refine List.Perm.eq_of_pairwise (le := fun a b => leL a b = true) ?_ h1 h2 hp
  intro a b _ _ hab hba
  unfold leL at hab hba
  rw [Bool.not_eq_true'] at hab hba
  exact lex_total hba hab
end Br
