/-
  What a shadow is, and what is computed of it, plainly, with no program in sight. Conditions: none.
-/
import Derived.Test.YtfmpabgblbbcdaaGreatDoorLogicC
import Derived.Lib.ItoaNum
import Derived.Lib.Join
set_option linter.all false
namespace Ni
structure Sc where
  part : Int
  least : Int
  most : Int
  loose : Bool
  wants : Int
  deriving DecidableEq, Inhabited
structure Pl where
  beg : Int
  s0l : Int
  s0h : Int
  s1l : Int
  s1h : Int
  dl : Int
  dh : Int
  scenes : List Sc
  deriving DecidableEq, Inhabited
def inn (n lo hi : Int) : Bool := decide (lo ≤ n) && decide (n ≤ hi)
def scBad (l : List Sc) (i : Nat) (h : i < l.length) : Bool :=
  !inn l[i].part 0 2 || (decide (0 < i) && decide (l[i].part < (l[i - 1]'(by omega)).part)) || !inn l[i].least 1 240 || !inn l[i].most l[i].least 240 || !inn l[i].wants (-1) (l.length - 1) || decide (l[i].wants = i)
def loosies (l : List Sc) : Nat := l.countP (·.loose)
def ScOK (l : List Sc) : Prop := (∀ i, (h : i < l.length) → scBad l i h = false) ∧ loosies l ≤ 6
instance (l : List Sc) : Decidable (ScOK l) := inferInstanceAs (Decidable (_ ∧ _))
def scn (p : Pl) (x : Nat) : Sc := p.scenes.getD x default
def ssum (f : Nat → Int) (c : Nat → Bool) (l : List Nat) : Int := ((l.filter c).map f).sum
structure GP (p : Pl) : Prop where
  len : p.scenes.length ≤ 16
  vals : ∀ x ∈ p.scenes, 0 ≤ x.least ∧ x.least ≤ 10000 ∧ 0 ≤ x.most ∧ x.most ≤ 10000
  beg : -10000 ≤ p.beg ∧ p.beg ≤ 10000
  s0l : 0 ≤ p.s0l ∧ p.s0l ≤ 10000
  s0h : 0 ≤ p.s0h ∧ p.s0h ≤ 10000
  s1l : 0 ≤ p.s1l ∧ p.s1l ≤ 10000
  s1h : 0 ≤ p.s1h ∧ p.s1h ≤ 10000
  dl : 0 ≤ p.dl ∧ p.dl ≤ 10000
  dh : 0 ≤ p.dh ∧ p.dh ≤ 10000
structure CV (p : Pl) (l : List Nat) : Prop where
  len : l.length ≤ 1000
  rng : ∀ x ∈ l, x < p.scenes.length
def inP (p : Pl) (part a b : Int) (x : Nat) : Bool := decide ((scn p x).part = part) && decide (a ≤ (x : Int)) && decide ((x : Int) ≤ b)
def lo (p : Pl) (l : List Nat) (part a b : Int) : Int := ssum (fun x => (scn p x).least) (inP p part a b) l
def hi (p : Pl) (l : List Nat) (part a b : Int) : Int := ssum (fun x => (scn p x).most) (inP p part a b) l
def fm {α : Type} (n : Nat) (f : Nat → List α) : List α := (List.range n).flatMap f
def wid (a b : Int) : Nat := (b - a + 1).toNat
def hC (p : Pl) (l : List Nat) (a b : Int) (k : Nat) : List (Int × Int × Int) := if inn (p.dl + k - b) (lo p l 2 0 10) (hi p l 2 0 10) = true then [(a, b, p.dl + k)] else []
def hB (p : Pl) (l : List Nat) (a : Int) (j : Nat) : List (Int × Int × Int) := if inn (p.s1l + j - a) (lo p l 1 0 10) (hi p l 1 0 10) = true then fm (wid p.dl p.dh) (hC p l a (p.s1l + j)) else []
def hA (p : Pl) (l : List Nat) (i : Nat) : List (Int × Int × Int) := if inn (p.s0l + i - p.beg) (lo p l 0 0 10) (hi p l 0 0 10) = true then fm (wid p.s1l p.s1h) (hB p l (p.s0l + i)) else []
def hrs (p : Pl) (l : List Nat) : List (Int × Int × Int) := fm (wid p.s0l p.s0h) (hA p l)
def can (p : Pl) (l : List Nat) : Bool := decide (0 < (hrs p l).length)
end Ni
namespace Ni
def fuel (p : Pl) (k : Nat) (n : Int) : Nat := ((scn p k).most - n).toNat
end Ni
namespace Ni
def leasts (p : Pl) (xs : List Nat) : List Int := xs.map fun x => (scn p x).least
def mosts (p : Pl) (xs : List Nat) : List Int := xs.map fun x => (scn p x).most
theorem map_take_succ {α β : Type} (f : α → β) {l : List α} {k : Nat} (h : k < l.length) : (l.take (k + 1)).map f = (l.take k).map f ++ [f l[k]] := by
  rw [List.take_succ_eq_append_getElem h, List.map_append]; rfl
def lsum (p : Pl) (xs : List Nat) : Int := (leasts p xs).sum
def hsum (p : Pl) (xs : List Nat) : Int := (mosts p xs).sum
def inPart (p : Pl) (part : Int) (x : Nat) : Bool := decide ((scn p x).part = part)
def ofP (p : Pl) (l : List Nat) (part : Int) : List Nat := l.filter (inPart p part)
def pl (p : Pl) (l : List Nat) (k : Nat) : Int := lsum p (ofP p l k)
def ph (p : Pl) (l : List Nat) (k : Nat) : Int := hsum p (ofP p l k)
end Ni
namespace Ni
structure WP (p : Pl) : Prop where
  len : p.scenes.length ≤ 10
  s0 : p.s0l ≤ p.s0h
  s1 : p.s1l ≤ p.s1h
  d : p.dl ≤ p.dh
  lm : ∀ x ∈ p.scenes, x.least ≤ x.most
structure FitNi (p : Pl) (l : List Nat) (a b c : Int) : Prop where
  a1 : p.s0l ≤ a
  a2 : a ≤ p.s0h
  b1 : p.s1l ≤ b
  b2 : b ≤ p.s1h
  c1 : p.dl ≤ c
  c2 : c ≤ p.dh
  x1 : pl p l 0 ≤ a - p.beg
  x2 : a - p.beg ≤ ph p l 0
  y1 : pl p l 1 ≤ b - a
  y2 : b - a ≤ ph p l 1
  z1 : pl p l 2 ≤ c - b
  z2 : c - b ≤ ph p l 2
theorem pick {lo hi L H t : Int} (h1 : lo ≤ hi) (h2 : L ≤ H) (h3 : lo + L ≤ t) (h4 : t ≤ hi + H) : ∃ s, lo ≤ s ∧ s ≤ hi ∧ L ≤ t - s ∧ t - s ≤ H :=
  ⟨max lo (t - H), by omega, by omega, by omega, by omega⟩
end Ni
namespace Ni
def wd : List (Int × Int) → Int × Int
  | [] => (0, 0)
  | v :: vs => vs.foldl (fun a b => (min a.1 b.1, max a.2 b.2)) v
end Ni
namespace Ni
open Go Go.Ab
def isD (b : UInt8) : Bool := decide (48 ≤ b.toNat) && decide (b.toNat ≤ 57)
def valN (l : List UInt8) : Int := l.foldl (fun a b => 10 * a + ((b.toNat : Int) - 48)) 0
theorem isD_iff (b : UInt8) : isD b = true ↔ 48 ≤ b.toNat ∧ b.toNat ≤ 57 := by simp [isD]
theorem dec_cases {w : List UInt8} {k : Nat} (h : k < w.length) : ((w[k]).toNat < 128 ∧ Utf8.decode ⟨w.toArray⟩ k = ((w[k]).toNat, 1)) ∨ (128 ≤ (w[k]).toNat ∧ 128 ≤ (Utf8.decode ⟨w.toArray⟩ k).1) := by
  have hk : k < (⟨w.toArray⟩ : ByteArray).size := by simp [ByteArray.size]; exact h
  have e : (⟨w.toArray⟩ : ByteArray)[k] = w[k] := rfl
  rcases Nat.lt_or_ge (w[k]).toNat 128 with ha | ha
  · exact .inl ⟨ha, by rw [decode_ascii _ _ hk (by rw [e]; exact ha), e]⟩
  · exact .inr ⟨ha, (decode_high _ _ hk (by rw [e]; exact ha)).1⟩
theorem dec_yes {w : List UInt8} {k : Nat} (h : k < w.length) (h1 : 48 ≤ (Utf8.decode ⟨w.toArray⟩ k).1) (h2 : (Utf8.decode ⟨w.toArray⟩ k).1 ≤ 57) : Utf8.decode ⟨w.toArray⟩ k = ((w[k]).toNat, 1) ∧ isD w[k] = true := by
  rcases dec_cases h with ⟨_, e⟩ | ⟨_, e⟩
  · refine ⟨e, (isD_iff _).2 ?_⟩
    rw [e] at h1 h2; exact ⟨h1, h2⟩
  · omega
theorem dec_no {w : List UInt8} {k : Nat} (h : k < w.length) (h1 : ¬ (48 ≤ (Utf8.decode ⟨w.toArray⟩ k).1 ∧ (Utf8.decode ⟨w.toArray⟩ k).1 ≤ 57)) : isD w[k] = false := by
  rcases dec_cases h with ⟨_, e⟩ | ⟨e1, e⟩
  · rw [e] at h1; simp only at h1
    rw [Bool.eq_false_iff]; intro hd; exact h1 ((isD_iff _).1 hd)
  · rw [Bool.eq_false_iff]; intro hd; have := (isD_iff _).1 hd; omega
end Ni
namespace Ni
open Go Go.Ab
def csT (m : Int) (l : List UInt8) (k : Nat) : Int := ((List.range k).map fun (j : Nat) => ((l.getD j 0).toNat : Int) * ((j : Int) + 1) * m).sum
theorem csT_succ (m : Int) {l : List UInt8} {k : Nat} (h : k < l.length) : csT m l (k + 1) = csT m l k + ((l[k].toNat : Int) * ((k : Int) + 1) * m) := by
  unfold csT
  rw [List.range_succ, List.map_append, List.sum_append]
  simp [List.getD_eq_getElem?_getD, h]
theorem term_bd {b : UInt8} {j : Nat} {m : Int} (hj : j < 1000) (hm : 0 ≤ m ∧ m ≤ 2000) : (0 ≤ (b.toNat : Int) * ((j : Int) + 1) ∧ (b.toNat : Int) * ((j : Int) + 1) ≤ 255000) ∧ 0 ≤ (b.toNat : Int) * ((j : Int) + 1) * m ∧ (b.toNat : Int) * ((j : Int) + 1) * m ≤ 510000000 := by
  have hb : b.toNat < 256 := b.toNat_lt
  have h1 : 0 ≤ (b.toNat : Int) * ((j : Int) + 1) := Int.mul_nonneg (by omega) (by omega)
  have h2 : (b.toNat : Int) * ((j : Int) + 1) ≤ 255 * 1000 := Int.mul_le_mul (by omega) (by omega) (by omega) (by omega)
  have h3 : (b.toNat : Int) * ((j : Int) + 1) * m ≤ 255000 * 2000 := Int.mul_le_mul (by omega) hm.2 hm.1 (by omega)
  exact ⟨⟨h1, by omega⟩, Int.mul_nonneg h1 hm.1, by omega⟩
theorem csT_bd {m : Int} (hm : 0 ≤ m ∧ m ≤ 2000) (l : List UInt8) : ∀ k, k ≤ l.length → l.length ≤ 1000 → 0 ≤ csT m l k ∧ csT m l k ≤ 510000000 * k
  | 0, _, _ => by simp [csT]
  | k + 1, hk, hl => by
    have ih := csT_bd hm l k (by omega) hl
    rw [csT_succ m (by omega)]
    have := term_bd (b := l[k]) (j := k) (m := m) (by omega) hm
    omega
def csL (m : Int) (l : List UInt8) : Int := csT m l l.length
def ctT (ls : List (List UInt8)) (i : Nat) : Int := ((List.range i).map fun (j : Nat) => csL ((j : Int) + 1) (ls.getD j [])).sum
theorem ctT_succ {ls : List (List UInt8)} {i : Nat} (h : i < ls.length) : ctT ls (i + 1) = ctT ls i + csL ((i : Int) + 1) ls[i] := by
  unfold ctT
  rw [List.range_succ, List.map_append, List.sum_append]
  simp [List.getD_eq_getElem?_getD, h]
theorem ctT_bd {ls : List (List UInt8)} (hl : ls.length ≤ 1999) (hb : ∀ l ∈ ls, l.length ≤ 1000) : ∀ i, i ≤ ls.length → 0 ≤ ctT ls i ∧ ctT ls i ≤ 510000000000 * i
  | 0, _ => by simp [ctT]
  | i + 1, hi => by
    have ih := ctT_bd hl hb i (by omega)
    rw [ctT_succ (by omega)]
    have h1 := hb _ (List.getElem_mem (show i < ls.length by omega))
    have := csT_bd (m := (i : Int) + 1) ⟨by omega, by omega⟩ ls[i] ls[i].length (Nat.le_refl _) h1
    unfold csL; omega
def outT (ls : List (List UInt8)) (i : Nat) : List UInt8 := ((ls.take i).map fun l => l ++ [10]).flatten
theorem outT_succ {ls : List (List UInt8)} {i : Nat} (h : i < ls.length) : outT ls (i + 1) = outT ls i ++ (ls[i] ++ [10]) := by
  unfold outT; rw [map_take_succ _ h, List.flatten_append]; simp
theorem outT_len {ls : List (List UInt8)} (hb : ∀ l ∈ ls, l.length ≤ 1000) : ∀ i, i ≤ ls.length → (outT ls i).length ≤ 1001 * i
  | 0, _ => by simp [outT]
  | i + 1, hi => by
    have ih := outT_len hb i (by omega)
    have h1 := hb _ (List.getElem_mem (show i < ls.length by omega))
    rw [outT_succ (by omega), List.length_append, List.length_append]; simp; omega
def digs3 (c : Int) : List UInt8 := Lib.itoa (c / 100) ++ Lib.itoa (c / 10 % 10) ++ Lib.itoa (c % 10)
theorem qd {c d : Int} (h : 0 ≤ c) (h2 : c ≤ 1000000) (hd : 0 < d) : IntKind.i64.wrap (c.tdiv d) = c / d := by
  rw [Int.tdiv_eq_ediv_of_nonneg h]
  have h3 := Int.ediv_nonneg h (Int.le_of_lt hd)
  have h4 := Int.ediv_le_self d h
  exact IntWalk.i64_in _ ⟨by omega, by omega⟩
end Ni
namespace Hd
open Ni (inn)
structure Rg where
  kinds : List Int
  hides : List (List Int)
  al : Int
  ah : Int
  bl : Int
  bh : Int
  off : Int
  mends : Int
  deriving DecidableEq, Inhabited
structure Rt where
  a : Int
  b : Int
  deriving DecidableEq, Inhabited
def kd (r : Rg) (m : Nat) : Int := r.kinds.getD m 0
def sz (r : Rg) (h m : Nat) : Int := (r.hides.getD h []).getD m 0
def sl (r : Rg) (k : Nat) : Int := if k = 0 then r.al else r.bl
def rm (r : Rg) (x : Rt) (m : Nat) : Int := if kd r m = 1 then x.a else x.b
def lo (off long : Int) : Int := max 0 ((long - 1000 * off + 999).tdiv 1000)
def hi (off long : Int) : Int := min 1000 ((long + 1000 * off).tdiv 1000)
def nums (q : Nat → Bool) (n : Nat) : List Int := ((List.range n).filter q).map fun (i : Nat) => (i : Int)
def rng (a b : Int) : List Int := (List.range (b - a + 1).toNat).map fun (i : Nat) => a + (i : Int)
def least (top : Int) : List Int → Int
  | [] => top
  | x :: l => min x (least top l)
end Hd
namespace Hd
open Ni (inn)
structure RgB (r : Rg) : Prop where
  nk : 1 ≤ r.kinds.length ∧ r.kinds.length ≤ 6
  nh : 1 ≤ r.hides.length ∧ r.hides.length ≤ 6
  a : (700 ≤ r.al ∧ r.al ≤ 1300) ∧ (r.al ≤ r.ah ∧ r.ah ≤ 1300) ∧ r.ah - r.al ≤ 40
  b : (700 ≤ r.bl ∧ r.bl ≤ 1300) ∧ (r.bl ≤ r.bh ∧ r.bh ≤ 1300) ∧ r.bh - r.bl ≤ 40
  off : 1 ≤ r.off ∧ r.off ≤ 5
  mends : 0 ≤ r.mends ∧ r.mends ≤ 2
  kd : ∀ m, m < r.kinds.length → kd r m = 1 ∨ kd r m = 2
  hl : ∀ h, (hh : h < r.hides.length) → r.hides[h].length = r.kinds.length
  sz : ∀ h m, h < r.hides.length → m < r.kinds.length → 1 ≤ sz r h m ∧ sz r h m ≤ 500
theorem getD_at {α : Type} {l : List α} {i : Nat} {d : α} (h : i < l.length) : l.getD i d = l[i] := by simp [List.getD, List.getElem?_eq_getElem h]
section best
variable {α : Type} (c : α → List Int)
end best
end Hd
namespace Hd
open Ni (inn)
def mnL : List Int → Int
  | [] => 0
  | x :: l => l.foldl min x
theorem fmin_spec : ∀ (l : List Int) (x : Int), l.foldl min x ≤ x ∧ (∀ y ∈ l, l.foldl min x ≤ y) ∧ (l.foldl min x = x ∨ l.foldl min x ∈ l)
  | [], x => by simp
  | y :: l, x => by
    rw [List.foldl_cons]
    obtain ⟨h1, h2, h3⟩ := fmin_spec l (min x y)
    refine ⟨by omega, fun z hz => ?_, ?_⟩
    · rcases List.mem_cons.1 hz with rfl | hz
      · omega
      · exact h2 z hz
    · rcases h3 with h3 | h3
      · rw [h3]
        rcases Int.le_total x y with k | k
        · left; omega
        · right; rw [Int.min_eq_right k]; simp
      · exact .inr (List.mem_cons_of_mem _ h3)
theorem mnL_mem {l : List Int} (h : 0 < l.length) : mnL l ∈ l := by
  cases l with
  | nil => simp at h
  | cons y l =>
    rcases (fmin_spec l y).2.2 with e | e
    · show l.foldl min y ∈ _; rw [e]; simp
    · exact List.mem_cons_of_mem _ e
def him (r : Rg) (h m : Nat) (x : Rt) : Int := hi r.off (sz r h m * rm r x m)
end Hd
namespace Hd
open Ni (inn)
def kp (r : Rg) (m : Nat) : Nat := (kd r m - 1).toNat
end Hd
namespace Hd
open Ni (inn)
theorem findSome_range {α : Type} {f : Nat → Option α} {n i : Nat} {a : α} (hi : i < n) (h : f i = some a) (no : ∀ j, j < i → f j = none) : (List.range n).findSome? f = some a := by
  induction n with
  | zero => omega
  | succ n ih =>
    rw [List.range_succ, List.findSome?_append]
    rcases Nat.lt_or_ge i n with k | k
    · rw [ih k]; rfl
    · have : i = n := by omega
      subst this
      rw [List.findSome?_eq_none_iff.2 fun j hj => no j (List.mem_range.1 hj)]
      simp [h]
def plan (ok : List Int → Bool) : Nat → List Int → List Int → Option (List Int)
  | 0, _, now => if ok now = true then some now else none
  | _ + 1, [], _ => none
  | many + 1, c :: cs, now => match plan ok many cs (now ++ [c]) with
    | some l => some l
    | none => plan ok (many + 1) cs now
def every (n : Nat) : List Int := (List.range n).map fun (i : Nat) => (i : Int)
end Hd
namespace Hd
open Go Go.Ab Ni
def numO (d : Nat) (w : List UInt8) : Option Int := if w.all isD = true ∧ w.length ≤ d ∧ w ≠ [] ∧ Lib.itoa (valN w) = w then some (valN w) else none
theorem numO_dig {d : Nat} {w : List UInt8} {k : Nat} (h : k < w.length) (hd : isD w[k] = false) : numO d w = none := by
  unfold numO; rw [if_neg]
  intro ⟨h1, _⟩
  have := List.all_eq_true.1 h1 _ (List.getElem_mem h)
  rw [hd] at this; cases this
theorem numO_len {d : Nat} {w : List UInt8} (h : ¬ w.length ≤ d) : numO d w = none := by
  unfold numO; rw [if_neg]; intro ⟨_, h1, _⟩; exact h h1
theorem numO_nil {d : Nat} : numO d [] = none := by
  unfold numO; rw [if_neg]; intro ⟨_, _, h1, _⟩; exact h1 rfl
theorem numO_val {d : Nat} {w : List UInt8} {n : Int} (h : numO d w = some n) : n = valN w := by
  unfold numO at h; split at h
  · exact (Option.some.inj h).symm
  · cases h
theorem numO_word {d : Nat} {w : List UInt8} {n : Int} (h : numO d w = some n) : Lib.itoa n = w := by
  have hv := numO_val h
  subst hv
  unfold numO at h; split at h
  · rename_i hc; exact hc.2.2.2
  · cases h
def allO {α β : Type} (f : α → Option β) : List α → Option (List β)
  | [] => some []
  | w :: ws => match f w, allO f ws with
    | some n, some l => some (n :: l)
    | _, _ => none
theorem allO_bad {α β : Type} {f : α → Option β} : ∀ {ws : List α} {k : Nat} (hk : k < ws.length), f ws[k] = none → allO f ws = none
  | w :: ws, 0, _, h => by unfold allO; simp only [List.getElem_cons_zero] at h; rw [h]
  | w :: ws, k + 1, hk, h => by
    have := allO_bad (f := f) (ws := ws) (k := k) (by simpa using hk) (by simpa using h)
    unfold allO; rw [this]; cases f w <;> rfl
theorem allO_ok {α β : Type} {f : α → Option β} : ∀ {ws : List α} {q : List β}, q.length = ws.length → (∀ i, (h : i < q.length) → (h2 : i < ws.length) → f ws[i] = some q[i]) → allO f ws = some q
  | [], [], _, _ => rfl
  | [], _ :: _, h, _ => by simp at h
  | _ :: _, [], h, _ => by simp at h
  | r :: rs, x :: q, hl, h => by
    have h0 := h 0 (by simp) (by simp)
    simp only [List.getElem_cons_zero] at h0
    have ih := allO_ok (f := f) (ws := rs) (q := q) (by simpa using hl) fun i hi h2 => by have := h (i + 1) (by simpa using hi) (by simpa using h2); simpa using this
    unfold allO; rw [h0, ih]
theorem allO_inv {α β : Type} {f : α → Option β} : ∀ {ws : List α} {q : List β}, allO f ws = some q → q.length = ws.length ∧ ∀ i, (h : i < q.length) → (h2 : i < ws.length) → f ws[i] = some q[i]
  | [], q, h => by unfold allO at h; cases h; exact ⟨rfl, fun i hi => absurd hi (by simp)⟩
  | w :: ws, q, h => by
    unfold allO at h
    split at h
    · rename_i n l hn hl
      cases h
      obtain ⟨h1, h2⟩ := allO_inv hl
      refine ⟨by simp [h1], fun i hi hi2 => ?_⟩
      cases i with
      | zero => exact hn
      | succ i => exact h2 i (by simpa using hi) (by simpa using hi2)
    · cases h
theorem allO_snoc {α β : Type} {f : α → Option β} {ws : List α} {q : List β} {x : β} {w : α} (hok : ∀ i, (h : i < q.length) → (h2 : i < ws.length) → f ws[i] = some q[i]) {hk : q.length < ws.length} (hr : ws[q.length] = w) (hx : f w = some x) :
    ∀ i, (h : i < (q ++ [x]).length) → (h2 : i < ws.length) → f ws[i] = some (q ++ [x])[i] := by
  intro i h h2
  by_cases e : i < q.length
  · rw [List.getElem_append_left e]; exact hok i e h2
  · have : i = q.length := by simp at h; omega
    subst this
    rw [hr, hx]; simp
def l6 (r : Rg) : List Int := [r.off, r.mends, r.al, r.ah, r.bl, r.bh]
def wordsOf (l : List Int) : List (List UInt8) := l.map Lib.itoa
end Hd
namespace Hd
open Go Go.Ab Ni
theorem cut_ne (c : UInt8) (l : List UInt8) : cut c l ≠ [] := fun e => by have := (cut_len c l).2; rw [e] at this; simp at this
def preL (l : List (List UInt8)) : List UInt8 := (l.map fun x => 32 :: x).flatten
theorem join_eq : ∀ (w : List UInt8) (l : List (List UInt8)), Lib.join (w :: l) [32] = w ++ preL l
  | w, [] => by simp [Lib.join, preL, List.intercalate]
  | w, y :: l => by
    have ih := join_eq y l
    unfold Lib.join List.intercalate at ih ⊢
    rw [List.intersperse_cons_cons]
    simp only [List.flatten_cons]
    rw [ih]
    simp [preL]
theorem numO_facts {d : Nat} {w : List UInt8} {n : Int} (h : numO d w = some n) : w.all isD = true ∧ w.length ≤ d ∧ w ≠ [] := by
  unfold numO at h; split at h
  · rename_i hc; exact ⟨hc.1, hc.2.1, hc.2.2.1⟩
  · cases h
def Sayd (n : Int) : Prop := numO 4 (Lib.itoa n) = some n
structure TdR (r : Rg) : Prop where
  head : ∀ n ∈ l6 r, Sayd n
  kind : ∀ k ∈ r.kinds, k = 1 ∨ k = 2
  hide : ∀ h ∈ r.hides, ∀ n ∈ h, Sayd n
theorem prelen {B : Nat} {ws : List (List UInt8)} (h : ∀ w ∈ ws, w.length ≤ B) : ((ws.map fun w => (32 : UInt8) :: w).flatten).length ≤ (B + 1) * ws.length := by
  induction ws with
  | nil => simp
  | cons w ws ih =>
    have h1 := h w (by simp)
    have h2 := ih (fun x hx => h x (List.mem_cons_of_mem _ hx))
    simp only [List.map_cons, List.flatten_cons, List.length_append, List.length_cons, Nat.mul_add]
    omega
theorem allO_mem {α β : Type} {f : α → Option β} {ws : List α} {q : List β} (h : allO f ws = some q) {x : β} (hx : x ∈ q) : ∃ w ∈ ws, f w = some x := by
  obtain ⟨h1, h2⟩ := allO_inv h
  obtain ⟨i, hi, rfl⟩ := List.getElem_of_mem hx
  exact ⟨ws[i], List.getElem_mem (by omega), h2 i hi (by omega)⟩
end Hd
namespace Hd
open Ni (inn)
def tk (f : List Int) (n : Nat) : List Int := nums (fun m => decide (0 ≤ f.getD m 0)) n
end Hd
namespace Hd
open Ni (inn)
theorem sub_rising : ∀ {l m : List Int}, l.Pairwise (· < ·) → m.Pairwise (· < ·) → (∀ n ∈ l, n ∈ m) → List.Sublist l m
  | [], m, _, _, _ => List.nil_sublist _
  | x :: l, [], _, _, h => by have := h x (by simp); cases this
  | x :: l, y :: m, hl, hm, h => by
    have hl' := List.pairwise_cons.1 hl
    have hm' := List.pairwise_cons.1 hm
    rcases List.mem_cons.1 (h x (by simp)) with e | e
    · subst e
      refine .cons_cons _ (sub_rising hl'.2 hm'.2 fun n hn => ?_)
      rcases List.mem_cons.1 (h n (by simp [hn])) with e | e
      · have := hl'.1 n hn; omega
      · exact e
    · refine .cons _ (sub_rising hl hm'.2 fun n hn => ?_)
      have hyx := hm'.1 x e
      rcases List.mem_cons.1 (h n hn) with e2 | e2
      · rcases List.mem_cons.1 hn with e3 | e3
        · omega
        · have := hl'.1 n e3; omega
      · exact e2
theorem every_rising (n : Nat) : (every n).Pairwise (· < ·) := by
  unfold every
  rw [List.pairwise_map]
  exact List.pairwise_lt_range.imp fun h => by omega
theorem mem_every {n : Nat} {x : Int} : x ∈ every n ↔ 0 ≤ x ∧ x < n := by
  unfold every
  rw [List.mem_map]
  constructor
  · rintro ⟨m, hm, rfl⟩; rw [List.mem_range] at hm; omega
  · rintro ⟨h1, h2⟩; exact ⟨x.toNat, by rw [List.mem_range]; omega, by omega⟩
def msOK (n : Nat) (l : List Int) : Prop := l.Pairwise (· < ·) ∧ ∀ x ∈ l, 0 ≤ x ∧ x < n
theorem ms_sub {n : Nat} {l : List Int} (h : msOK n l) : List.Sublist l (every n) := sub_rising h.1 (every_rising n) fun x hx => mem_every.2 (h.2 x hx)
end Hd
namespace Hd
open Ni (inn)
def ixQ {α : Type} (q : α → Bool) (E : List α) : Int := match E.findIdx? q with | some i => i | none => -1
theorem ixQ_at {α : Type} {q : α → Bool} {E : List α} {k : Nat} (hk : k < E.length) (h : q E[k] = true) (ok : ∀ i, (hi : i < E.length) → i < k → q E[i] = false) : ixQ q E = k := by
  have : E.findIdx? q = some k := List.findIdx?_eq_some_iff_getElem.2 ⟨hk, h, fun j hj => by simp [ok j (by omega) hj]⟩
  unfold ixQ; rw [this]
theorem ixQ_no {α : Type} {q : α → Bool} {E : List α} (ok : ∀ i, (hi : i < E.length) → q E[i] = false) : ixQ q E = -1 := by
  have : E.findIdx? q = none := List.findIdx?_eq_none_iff.2 fun x hx => by
    obtain ⟨i, hi, rfl⟩ := List.getElem_of_mem hx; exact ok i hi
  unfold ixQ; rw [this]
theorem ixQ_any {α : Type} (q : α → Bool) (E : List α) : decide (ixQ q E ≥ 0) = E.any q := by
  unfold ixQ
  cases h : E.findIdx? q with
  | none =>
    have := List.findIdx?_eq_none_iff.1 h
    rw [List.any_eq_false.2 fun x hx => by simp [this x hx]]; rfl
  | some i =>
    obtain ⟨h1, h2, _⟩ := List.findIdx?_eq_some_iff_getElem.1 h
    rw [List.any_eq_true.2 ⟨_, List.getElem_mem h1, h2⟩]; exact decide_eq_true (show (i : Int) ≥ 0 by omega)
theorem any_not {α : Type} (q : α → Bool) (l : List α) : (!(l.any fun x => !q x)) = l.all q := by
  rw [Bool.eq_iff_iff]; simp [List.all_eq_true]
end Hd
namespace St
open Ni (inn)
open Hd (every getD_at mem_every)
structure Scn where
  moved : List Int
  rest : List Int
  knocks : Int
  taken : List Int
  deriving DecidableEq, Inhabited
structure Fgr where
  side : Int
  rank : Int
  hands : Int
  deriving DecidableEq, Inhabited
structure Ply where
  left : Int
  hts : List Int
  figs : List Fgr
  scs : List Scn
  deriving DecidableEq, Inhabited
def rising (l : List Int) (n : Nat) : Bool := decide (∀ i, (h : i < l.length) → (0 ≤ l[i] ∧ l[i] < n) ∧ (0 < i → l[i - 1] < l[i]))
theorem rising_no {l : List Int} {n i : Nat} (hi : i < l.length) (h : ¬ ((0 ≤ l[i] ∧ l[i] < n) ∧ (0 < i → l[i - 1] < l[i]))) : rising l n = false := by
  unfold rising; rw [decide_eq_false_iff_not]; exact fun q => h (q i hi)
theorem rising_yes {l : List Int} {n : Nat} (h : ∀ i, (hi : i < l.length) → (0 ≤ l[i] ∧ l[i] < n) ∧ (0 < i → l[i - 1] < l[i])) : rising l n = true := decide_eq_true h
theorem rising_iff {l : List Int} {n : Nat} : rising l n = true ↔ l.Pairwise (· < ·) ∧ ∀ x ∈ l, 0 ≤ x ∧ x < n := by
  unfold rising; rw [decide_eq_true_eq]
  constructor
  · intro h
    refine ⟨List.pairwise_iff_getElem.2 fun i j hi hj hij => ?_, fun x hx => ?_⟩
    · have rise : ∀ d : Nat, (hd : i + d + 1 < l.length) → l[i] < l[i + d + 1] := by
        intro d
        induction d with
        | zero => intro hd; exact (h (i + 1) hd).2 (by omega)
        | succ d ih =>
          intro hd
          have h1 := ih (by omega)
          have h2 := (h (i + (d + 1) + 1) hd).2 (by omega)
          simp only [Nat.add_sub_cancel] at h2
          exact Int.lt_trans h1 h2
      have e : j = i + (j - i - 1) + 1 := by omega
      have := rise (j - i - 1) (by omega)
      simpa only [← e] using this
    · obtain ⟨i, hi, rfl⟩ := List.getElem_of_mem hx
      exact (h i hi).1
  · intro h i hi
    exact ⟨h.2 _ (List.getElem_mem hi), fun q => List.pairwise_iff_getElem.1 h.1 (i - 1) i (by omega) hi (by omega)⟩
def scOK (p : Ply) (x : Scn) : Bool := rising x.moved p.figs.length && rising x.rest p.figs.length && rising x.taken p.hts.length && decide (x.rest.length ≤ 4) && inn x.knocks 0 2 && x.moved.all fun n => !decide (n ∈ x.rest)
def fgOK (f : Fgr) : Bool := inn f.side 1 3 && inn f.rank 1 9 && inn f.hands 1 2
def plOK (p : Ply) : Bool := inn p.hts.length 1 6 && inn p.left 0 p.hts.length && inn p.figs.length 1 6 && inn p.scs.length 1 5 && (p.hts.all fun n => inn n 1 9) && p.figs.all fgOK && p.scs.all (scOK p)
def scIn (p : Ply) (n : Int) : Bool := inn n 0 (p.scs.length - 1)
structure ScB (p : Ply) (x : Scn) : Prop where
  mv : rising x.moved p.figs.length = true
  rs : rising x.rest p.figs.length = true
  tk : rising x.taken p.hts.length = true
  r4 : x.rest.length ≤ 4
  kn : 0 ≤ x.knocks ∧ x.knocks ≤ 2
structure PlB (p : Ply) : Prop where
  nh : 1 ≤ p.hts.length ∧ p.hts.length ≤ 6
  lf : 0 ≤ p.left ∧ p.left ≤ p.hts.length
  nf : 1 ≤ p.figs.length ∧ p.figs.length ≤ 6
  ns : 1 ≤ p.scs.length ∧ p.scs.length ≤ 5
  ht : ∀ n ∈ p.hts, -9 ≤ n ∧ n ≤ 9
  fg : ∀ f ∈ p.figs, (1 ≤ f.side ∧ f.side ≤ 3) ∧ (1 ≤ f.rank ∧ f.rank ≤ 9) ∧ (1 ≤ f.hands ∧ f.hands ≤ 2)
  sc : ∀ x ∈ p.scs, ScB p x
theorem plOK_B {p : Ply} (h : plOK p = true) : PlB p := by
  unfold plOK at h
  simp only [Bool.and_eq_true, inn, decide_eq_true_eq, List.all_eq_true] at h
  obtain ⟨⟨⟨⟨⟨⟨h1, h2⟩, h3⟩, h4⟩, h5⟩, h6⟩, h7⟩ := h
  refine ⟨by omega, h2, by omega, by omega, fun n hn => by have := h5 n hn; omega, fun f hf => ?_, fun x hx => ?_⟩
  · have := h6 f hf
    unfold fgOK at this
    simp only [Bool.and_eq_true, inn, decide_eq_true_eq] at this
    exact ⟨this.1.1, this.1.2, this.2⟩
  · have := h7 x hx
    unfold scOK at this
    simp only [Bool.and_eq_true, inn, decide_eq_true_eq] at this
    obtain ⟨⟨⟨⟨⟨a1, a2⟩, a3⟩, a4⟩, a5⟩, _⟩ := this
    exact ⟨a1, a2, a3, a4, a5⟩
theorem plOK_ht {p : Ply} (h : plOK p = true) : ∀ n ∈ p.hts, 1 ≤ n ∧ n ≤ 9 := by
  unfold plOK at h
  simp only [Bool.and_eq_true, inn, decide_eq_true_eq, List.all_eq_true] at h
  exact h.1.1.2
def fg (p : Ply) (n : Int) : Fgr := p.figs.getD n.toNat ⟨0, 0, 0⟩
def ht (p : Ply) (n : Int) : Int := p.hts.getD n.toNat 0
def sc (p : Ply) (n : Nat) : Scn := p.scs.getD n ⟨[], [], 0, []⟩
theorem fg_at {p : Ply} {n : Int} (h0 : 0 ≤ n) (h : n < p.figs.length) : fg p n = p.figs[n.toNat]'(by omega) := getD_at _
theorem ht_at {p : Ply} {n : Int} (h0 : 0 ≤ n) (h : n < p.hts.length) : ht p n = p.hts[n.toNat]'(by omega) := getD_at _
theorem sc_at {p : Ply} {n : Nat} (h : n < p.scs.length) : sc p n = p.scs[n] := getD_at _
theorem sc_B {p : Ply} (B : PlB p) {n : Nat} (h : n < p.scs.length) : ScB p (sc p n) := by rw [sc_at h]; exact B.sc _ (List.getElem_mem h)
theorem fg_B {p : Ply} (B : PlB p) {n : Int} (h0 : 0 ≤ n) (h : n < p.figs.length) : (1 ≤ (fg p n).side ∧ (fg p n).side ≤ 3) ∧ (1 ≤ (fg p n).rank ∧ (fg p n).rank ≤ 9) ∧ (1 ≤ (fg p n).hands ∧ (fg p n).hands ≤ 2) := by
  rw [fg_at h0 h]; exact B.fg _ (List.getElem_mem _)
def hands (p : Ply) (x : Scn) : Int := max 0 (x.knocks - 1) + (x.moved.map fun f => (fg p f).hands).sum
theorem rising_len {l : List Int} {n : Nat} (h : rising l n = true) : l.length ≤ n := by
  have := (Hd.ms_sub (n := n) (l := l) (rising_iff.1 h)).length_le
  simpa [every] using this
def lf (p : Ply) (n : Int) : Bool := decide (n < p.left)
def rf (p : Ply) (x : Scn) (i : Nat) : Fgr := fg p (x.rest.getD i 0)
def plc (p : Ply) (x : Scn) (l : List Int) (i : Nat) : Bool :=
  !decide (l.getD i 0 ∈ x.taken ∨ l.getD i 0 ∈ l.take i) && (decide ((rf p x i).side = 3) || (lf p (l.getD i 0) == decide ((rf p x i).side = 1)))
def low (p : Ply) (x : Scn) (l : List Int) (i : Nat) : Bool := decide (ht p (l.getD i 0) ≤ (rf p x i).rank)
def clash (p : Ply) (x : Scn) (l : List Int) (i j : Nat) : Bool := (lf p (l.getD i 0) == lf p (l.getD j 0)) && decide ((rf p x i).rank < (rf p x j).rank ∧ ht p (l.getD j 0) < ht p (l.getD i 0))
def rkd (p : Ply) (x : Scn) (l : List Int) (i : Nat) : Bool := decide (∀ j, j < i → clash p x l j i = false ∧ clash p x l i j = false)
def okI (b : Bool) (p : Ply) (x : Scn) (l : List Int) (i : Nat) : Bool := plc p x l i && (!b || (low p x l i && rkd p x l i))
def okL (b : Bool) (p : Ply) (x : Scn) (l : List Int) : Bool := okI b p x l (l.length - 1)
theorem getD_take {l : List Int} {i k : Nat} (h : i < k) : (l.take k).getD i 0 = l.getD i 0 := by
  simp only [List.getD, List.getElem?_take, if_pos h]
theorem clash_take {p : Ply} {x : Scn} {l : List Int} {i j k : Nat} (hi : i < k) (hj : j < k) : clash p x (l.take k) i j = clash p x l i j := by
  unfold clash; rw [getD_take hi, getD_take hj]
theorem okI_take {b : Bool} {p : Ply} {x : Scn} {l : List Int} {i k : Nat} (h : i < k) : okI b p x (l.take k) i = okI b p x l i := by
  have e1 : plc p x (l.take k) i = plc p x l i := by unfold plc; rw [getD_take h, List.take_take, Nat.min_eq_left (by omega)]
  have e2 : low p x (l.take k) i = low p x l i := by unfold low; rw [getD_take h]
  have e3 : rkd p x (l.take k) i = rkd p x l i := by
    unfold rkd; rw [decide_eq_decide]
    refine forall_congr' fun j => forall_congr' fun hj => ?_
    rw [clash_take (by omega) h, clash_take h (by omega)]
  unfold okI; rw [e1, e2, e3]
theorem okL_take {b : Bool} {p : Ply} {x : Scn} {l : List Int} {i : Nat} (h : i < l.length) : okL b p x (l.take (i + 1)) = okI b p x l i := by
  unfold okL; rw [List.length_take, Nat.min_eq_left (by omega), Nat.add_sub_cancel, okI_take (by omega)]
def dfs (ok : List Int → Bool) (n : Nat) : Nat → List Int → List (List Int)
  | 0, now => [now]
  | k + 1, now => (every n).flatMap fun a => if ok (now ++ [a]) = true then dfs ok n k (now ++ [a]) else []
def good (ok : List Int → Bool) (m : Nat) (l : List Int) : Bool := decide (∀ i, i < l.length → m ≤ i → ok (l.take (i + 1)) = true)
theorem mem_dfs {ok : List Int → Bool} {n : Nat} : ∀ {k : Nat} {now l : List Int}, l ∈ dfs ok n k now ↔
    l.length = now.length + k ∧ l.take now.length = now ∧ (∀ a ∈ l.drop now.length, 0 ≤ a ∧ a < n) ∧ good ok now.length l = true
  | 0, now, l => by
    unfold dfs good
    rw [List.mem_singleton, decide_eq_true_eq]
    constructor
    · rintro rfl; simp; intro i h1 h2; omega
    · rintro ⟨h1, h2, _⟩
      rw [List.take_of_length_le (by omega)] at h2; exact h2
  | k + 1, now, l => by
    unfold dfs
    rw [List.mem_flatMap]
    constructor
    · rintro ⟨a, ha, h⟩
      split at h
      · rename_i hok
        obtain ⟨h1, h2, h3, h4⟩ := mem_dfs.1 h
        simp only [List.length_append, List.length_cons, List.length_nil, Nat.zero_add] at h1 h2 h3 h4
        have hl : now.length < l.length := by omega
        have e2 : l.take now.length = now := by
          have := congrArg (List.take now.length) h2
          rwa [List.take_take, Nat.min_eq_left (by omega), List.take_append_of_le_length (by omega), List.take_length] at this
        have e3 : l[now.length] = a := by
          have h5 : (l.take (now.length + 1))[now.length]'(by rw [List.length_take]; omega) = (now ++ [a])[now.length]'(by simp) := by simp only [h2]
          simpa using h5
        refine ⟨by omega, e2, fun b hb => ?_, ?_⟩
        · rw [List.drop_eq_getElem_cons hl, e3] at hb
          rcases List.mem_cons.1 hb with rfl | hb
          · exact mem_every.1 ha
          · exact h3 b hb
        · unfold good at h4 ⊢
          rw [decide_eq_true_eq] at h4 ⊢
          intro i h5 h6
          rcases Nat.lt_or_ge now.length i with q | q
          · exact h4 i h5 q
          · obtain rfl : i = now.length := by omega
            rw [h2]; exact hok
      · simp at h
    · rintro ⟨h1, h2, h3, h4⟩
      have hl : now.length < l.length := by omega
      have e : l.take (now.length + 1) = now ++ [l[now.length]] := by rw [List.take_succ_eq_append_getElem hl, h2]
      refine ⟨l[now.length], mem_every.2 (h3 _ (by rw [List.drop_eq_getElem_cons hl]; exact List.mem_cons_self)), ?_⟩
      unfold good at h4
      rw [decide_eq_true_eq] at h4
      rw [if_pos (by rw [← e]; exact h4 now.length hl (Nat.le_refl _))]
      refine mem_dfs.2 ⟨by simp; omega, by simpa using e, fun b hb => h3 b ?_, ?_⟩
      · rw [List.drop_eq_getElem_cons hl]; simp only [List.length_append, List.length_cons, List.length_nil, Nat.zero_add] at hb
        exact List.mem_cons_of_mem _ hb
      · unfold good
        rw [decide_eq_true_eq]
        intro i h5 h6
        simp only [List.length_append, List.length_cons, List.length_nil, Nat.zero_add] at h6
        exact h4 i h5 (by omega)
end St
namespace St
open Ni (inn)
open Hd (every getD_at mem_every every_rising)
theorem good_split {ok : List Int → Bool} {m : Nat} {l : List Int} (h : m < l.length) : good ok m l = (ok (l.take (m + 1)) && good ok (m + 1) l) := by
  unfold good
  rw [Bool.eq_iff_iff, Bool.and_eq_true, decide_eq_true_eq, decide_eq_true_eq]
  constructor
  · exact fun q => ⟨q m h (Nat.le_refl _), fun i h1 h2 => q i h1 (by omega)⟩
  · rintro ⟨q1, q2⟩ i h1 h2
    rcases Nat.lt_or_ge m i with q | q
    · exact q2 i h1 q
    · obtain rfl : i = m := by omega
      exact q1
theorem filter_false {α : Type} {p : α → Bool} {l : List α} (h : ∀ x ∈ l, p x = false) : l.filter p = [] := by
  rw [List.filter_eq_nil_iff]; intro x hx; rw [h x hx]; simp
theorem dfs_filter {ok ok' : List Int → Bool} {n : Nat} (hs : ∀ l, ok' l = true → ok l = true) : ∀ (k : Nat) (now : List Int), dfs ok' n k now = (dfs ok n k now).filter (good ok' now.length)
  | 0, now => by
    unfold dfs
    have : good ok' now.length now = true := by unfold good; rw [decide_eq_true_eq]; intro i h1 h2; omega
    rw [List.filter_cons_of_pos this, List.filter_nil]
  | k + 1, now => by
    unfold dfs
    rw [List.filter_flatMap]
    refine congrArg (fun f => (every n).flatMap f) (funext fun a => ?_)
    have key : ∀ l ∈ dfs ok n k (now ++ [a]), good ok' now.length l = (ok' (now ++ [a]) && good ok' (now.length + 1) l) := fun l hl => by
      have h1 := mem_dfs.1 hl
      have h2 := h1.2.1
      simp only [List.length_append, List.length_cons, List.length_nil, Nat.zero_add] at h1 h2
      rw [good_split (by omega), h2]
    by_cases h' : ok' (now ++ [a]) = true
    · rw [if_pos h', if_pos (hs _ h'), dfs_filter hs k (now ++ [a])]
      refine List.filter_congr fun l hl => ?_
      rw [key l hl, h', Bool.true_and]; simp
    · rw [if_neg h']
      split
      · rw [filter_false fun l hl => by rw [key l hl, Bool.eq_false_iff.2 h']; rfl]
      · rfl
theorem dfs_len {ok : List Int → Bool} {n : Nat} : ∀ (k : Nat) (now : List Int), (dfs ok n k now).length ≤ n ^ k
  | 0, now => by unfold dfs; simp
  | k + 1, now => by
    unfold dfs
    have h : ∀ (l : List Int), (l.flatMap fun a => if ok (now ++ [a]) = true then dfs ok n k (now ++ [a]) else []).length ≤ l.length * n ^ k := by
      intro l
      induction l with
      | nil => simp
      | cons a l ih =>
        rw [List.flatMap_cons, List.length_append, List.length_cons, Nat.add_mul, Nat.one_mul]
        have : (if ok (now ++ [a]) = true then dfs ok n k (now ++ [a]) else []).length ≤ n ^ k := by
          split
          · exact dfs_len k _
          · simp
        omega
    have h1 := h (every n)
    have h2 : (every n).length = n := by simp [every]
    rw [h2] at h1
    rw [Nat.pow_succ, Nat.mul_comm]; exact h1
def arr (b : Bool) (p : Ply) (x : Scn) : List (List Int) := dfs (okL b p x) p.hts.length x.rest.length []
def inj (l : List Int) : Bool := !decide (l.getD (l.length - 1) 0 ∈ l.take (l.length - 1))
def suits (b : Bool) (p : Ply) (x : Scn) (l : List Int) : Bool := decide (∀ i, i < l.length → okI b p x l i = true)
theorem suits_good (b : Bool) (p : Ply) (x : Scn) (l : List Int) : good (okL b p x) 0 l = suits b p x l := by
  unfold good suits
  rw [decide_eq_decide]
  exact forall_congr' fun i => forall_congr' fun hi => by simp only [Nat.zero_le, true_imp_iff]; rw [okL_take hi]
theorem mem_arr {b : Bool} {p : Ply} {x : Scn} {l : List Int} : l ∈ arr b p x ↔ l.length = x.rest.length ∧ (∀ a ∈ l, 0 ≤ a ∧ a < p.hts.length) ∧ suits b p x l = true := by
  unfold arr; rw [mem_dfs, ← suits_good]; simp
theorem okI_weak {p : Ply} {x : Scn} {l : List Int} {i : Nat} (h : okI true p x l i = true) : okI false p x l i = true := by
  unfold okI at *; simp at *; exact h.1
theorem arr_weak {p : Ply} {x : Scn} (h : arr false p x = []) : arr true p x = [] := by
  rw [List.eq_nil_iff_forall_not_mem] at *
  intro l hl
  obtain ⟨h1, h2, h3⟩ := mem_arr.1 hl
  refine h l (mem_arr.2 ⟨h1, h2, ?_⟩)
  unfold suits at *
  rw [decide_eq_true_eq] at *
  exact fun i hi => okI_weak (h3 i hi)
theorem arr_len {p : Ply} (B : PlB p) {x : Scn} (X : ScB p x) (b : Bool) : (arr b p x).length ≤ 1296 := by
  have h1 := dfs_len (ok := okL b p x) (n := p.hts.length) x.rest.length []
  have h2 : p.hts.length ^ x.rest.length ≤ 6 ^ x.rest.length := Nat.pow_le_pow_left B.nh.2 _
  have h3 : 6 ^ x.rest.length ≤ 6 ^ 4 := Nat.pow_le_pow_right (by decide) X.r4
  unfold arr; omega
def can (p : Ply) (x : Scn) : Bool := decide (hands p x ≤ 2) && !(arr true p x).isEmpty
def lacks (p : Ply) (x : Scn) : Int := if 2 < hands p x then 1 else if arr false p x = [] then 2 else 3
def failsAt (p : Ply) : Option Nat := (List.range p.scs.length).find? fun n => !can p (sc p n)
theorem fails_none {p : Ply} (h : failsAt p = none) : ∀ j, j < p.scs.length → can p (sc p j) = true := fun j hj => by
  unfold failsAt at h
  rw [List.find?_eq_none] at h
  simpa using h j (List.mem_range.2 hj)
theorem fails_is {p : Ply} {n : Nat} (hn : n < p.scs.length) (h : can p (sc p n) = false) (no : ∀ j, j < n → can p (sc p j) = true) : failsAt p = some n := by
  unfold failsAt
  rw [List.find?_range_eq_some]
  exact ⟨by simpa using h, List.mem_range.2 hn, fun j hj => by simpa using no j hj⟩
theorem fails_no {p : Ply} (no : ∀ j, j < p.scs.length → can p (sc p j) = true) : failsAt p = none := by
  unfold failsAt
  rw [List.find?_eq_none]
  intro j hj
  simpa using no j (List.mem_range.1 hj)
end St
namespace St
open Hd (mnL mnL_mem)
section path
variable {α : Type} (A : Nat → List α) (s : Nat → α → α → Int)
def lefF : Nat → Nat → α → Int
  | 0, _, _ => 0
  | d + 1, n, a => mnL ((A (n + 1)).map fun b => lefF d (n + 1) b + s n a b)
def befF : Nat → α → Int
  | 0, _ => 0
  | n + 1, b => mnL ((A n).map fun a => befF n a + s n a b)
variable {A s}
end path
end St
namespace St
open Go Go.Ab Ni
open Hd (numO allO allO_ok allO_inv allO_bad allO_mem wordsOf preL join_eq cut_ne numO_facts numO_word numO_val prelen getD_at)
def wStem : List UInt8 := [115, 116, 101, 109]
def wFig : List UInt8 := [102, 105, 103, 117, 114, 101]
def wScn : List UInt8 := [115, 99, 101, 110, 101]
def wLef : List UInt8 := [108, 101, 102, 116]
def wRig : List UInt8 := [114, 105, 103, 104, 116]
def wEit : List UInt8 := [101, 105, 116, 104, 101, 114]
def sideW (s : Int) : List UInt8 := if s = 1 then wLef else if s = 2 then wRig else wEit
def sideO (w : List UInt8) : Option Int := if w = wLef then some 1 else if w = wRig then some 2 else if w = wEit then some 3 else none
theorem sideO_some {w : List UInt8} {s : Int} (h : sideO w = some s) : (1 ≤ s ∧ s ≤ 3) ∧ sideW s = w := by
  unfold sideO at h
  split at h
  · rename_i e; cases h; exact ⟨by omega, e ▸ rfl⟩
  · split at h
    · rename_i e; cases h; exact ⟨by omega, e ▸ rfl⟩
    · split at h
      · rename_i e; cases h; exact ⟨by omega, e ▸ rfl⟩
      · cases h
def listW (l : List Int) : List UInt8 := if l = [] then [45] else Lib.join (wordsOf l) [44]
def listO (w : List UInt8) : Option (List Int) := if w = [45] then some [] else allO (numO 1) (cut 44 w)
def lnHead (p : Ply) : List UInt8 := Lib.join (wStem :: wordsOf (p.left :: p.hts)) [32]
def lnFig (f : Fgr) : List UInt8 := Lib.join (wFig :: sideW f.side :: wordsOf [f.rank, f.hands]) [32]
def lnScn (x : Scn) : List UInt8 := Lib.join (wScn :: Lib.itoa x.knocks :: [listW x.moved, listW x.rest, listW x.taken]) [32]
def linesS (p : Ply) : List (List UInt8) := lnHead p :: (p.figs.map lnFig ++ p.scs.map lnScn)
def sealS (ls : List (List UInt8)) : List UInt8 := outT ls ls.length ++ [101, 110, 100, 32] ++ digs3 (ctT ls ls.length % 193) ++ [10]
def textS (p : Ply) : List UInt8 := sealS (linesS p)
inductive Ln where
  | fig (f : Fgr)
  | scn (x : Scn)
  deriving DecidableEq
def figO (b c d : List UInt8) : Option Ln := match sideO b, allO (numO 1) [c, d] with
  | some s, some [r, h] => some (.fig ⟨s, r, h⟩)
  | _, _ => none
def scnO (b c d e : List UInt8) : Option Ln := match numO 1 b, listO c, listO d, listO e with
  | some k, some m, some r, some t => some (.scn ⟨m, r, k, t⟩)
  | _, _, _, _ => none
def wordsO : List (List UInt8) → Option Ln
  | [a, b, c, d] => if a = wFig then figO b c d else none
  | [a, b, c, d, e] => if a = wScn then scnO b c d e else none
  | _ => none
def rowQ (r : List UInt8) : Option Ln := wordsO (cut 32 r)
def topO (r : List UInt8) : Option (Int × List Int) := match allO (numO 1) ((cut 32 r).drop 1) with
  | some (l :: hs) => some (l, hs)
  | _ => none
def figsOf (q : List Ln) : List Fgr := q.filterMap fun | .fig f => some f | _ => none
def scsOf (q : List Ln) : List Scn := q.filterMap fun | .scn x => some x | _ => none
def rowsS (s : List UInt8) : Option Ply := match cut 10 s with
  | r0 :: rs => if 2 ≤ rs.length then (match topO r0, allO rowQ (rs.take (rs.length - 2)) with
    | some h, some q => some ⟨h.1, h.2, figsOf q, scsOf q⟩
    | _, _ => none) else none
  | _ => none
def parseS (s : List UInt8) : Option Ply := match rowsS s with | some p => if textS p = s then some p else none | none => none
theorem parseS_text {s : List UInt8} {p : Ply} (h : parseS s = some p) : textS p = s := by
  unfold parseS at h; split at h
  · split at h
    · rename_i e; cases h; exact e
    · cases h
  · cases h
theorem figsOf_app (a b : List Ln) : figsOf (a ++ b) = figsOf a ++ figsOf b := List.filterMap_append
theorem scsOf_app (a b : List Ln) : scsOf (a ++ b) = scsOf a ++ scsOf b := List.filterMap_append
def Dg (n : Int) : Prop := 0 ≤ n ∧ n ≤ 9
theorem dg_fin : ∀ n : Fin 10, numO 1 (Lib.itoa (n.val : Int)) = some (n.val : Int) ∧ (Lib.itoa (n.val : Int)).length = 1 := by decide +kernel
theorem dg_num {n : Int} (h : Dg n) : numO 1 (Lib.itoa n) = some n ∧ (Lib.itoa n).length = 1 := by
  unfold Dg at h
  have := dg_fin ⟨n.toNat, by omega⟩
  rwa [show ((⟨n.toNat, by omega⟩ : Fin 10).val : Int) = n from (by simp; omega)] at this
theorem num_dg {w : List UInt8} {n : Int} (h : numO 1 w = some n) : Dg n := by
  have hv := numO_val h
  obtain ⟨h1, h2, h3⟩ := numO_facts h
  match w, h3, h2 with
  | [c], _, _ =>
    have := (isD_iff _).1 (List.all_eq_true.1 h1 c (by simp))
    subst hv
    unfold Dg valN; simp; omega
theorem nums_dg {ws : List (List UInt8)} {l : List Int} (h : allO (numO 1) ws = some l) : ∀ n ∈ l, Dg n := fun n hn => by
  obtain ⟨w, _, hw⟩ := allO_mem h hn
  exact num_dg hw
theorem nums_words {ws : List (List UInt8)} {l : List Int} (h : allO (numO 1) ws = some l) : wordsOf l = ws := by
  obtain ⟨h1, h2⟩ := allO_inv h
  refine List.ext_getElem (by simp [wordsOf, h1]) fun i hi hi2 => ?_
  simp only [wordsOf, List.getElem_map]
  exact numO_word (h2 i (by simpa [wordsOf] using hi) hi2)
theorem joinc_eq : ∀ (w : List UInt8) (l : List (List UInt8)), Lib.join (w :: l) [44] = w ++ (l.map fun x => (44 : UInt8) :: x).flatten
  | w, [] => by simp [Lib.join, List.intercalate]
  | w, y :: l => by
    have ih := joinc_eq y l
    unfold Lib.join List.intercalate at ih ⊢
    rw [List.intersperse_cons_cons]
    simp only [List.flatten_cons]
    rw [ih]
    simp
theorem list_dg {w : List UInt8} {l : List Int} (h : listO w = some l) : ∀ n ∈ l, Dg n := by
  unfold listO at h
  split at h
  · cases h; intro n hn; cases hn
  · exact nums_dg h
theorem cut_joinc : ∀ (w : List UInt8), Lib.join (cut 44 w) [44] = w
  | [] => by simp [cut, Lib.join, List.intercalate]
  | b :: w => by
    have ih := cut_joinc w
    rw [cut]
    split
    · rename_i e
      subst e
      cases hc : cut 44 w with
      | nil => exact absurd hc (cut_ne 44 w)
      | cons x xs => rw [hc, joinc_eq] at ih; rw [joinc_eq]; simp [ih]
    · cases hc : cut 44 w with
      | nil => exact absurd hc (cut_ne 44 w)
      | cons x xs =>
        rw [hc, joinc_eq] at ih
        simp only
        rw [joinc_eq, List.cons_append, ih]
theorem list_word {w : List UInt8} {l : List Int} (h : listO w = some l) : listW l = w := by
  unfold listO at h
  split at h
  · rename_i e; cases h; exact e.symm
  · have h1 := nums_words h
    have hl := (allO_inv h).1
    have hne : l ≠ [] := fun e => by subst e; have := (cut_len 44 w).2; simp at hl; omega
    unfold listW; rw [if_neg hne, h1, cut_joinc]
structure TdP (p : Ply) : Prop where
  head : ∀ n ∈ p.left :: p.hts, Dg n
  fig : ∀ f ∈ p.figs, (1 ≤ f.side ∧ f.side ≤ 3) ∧ Dg f.rank ∧ Dg f.hands
  scn : ∀ x ∈ p.scs, Dg x.knocks ∧ (∀ n ∈ x.moved, Dg n) ∧ (∀ n ∈ x.rest, Dg n) ∧ ∀ n ∈ x.taken, Dg n
theorem B_td {p : Ply} (B : PlB p) (hh : ∀ n ∈ p.hts, 1 ≤ n ∧ n ≤ 9) : TdP p := by
  refine ⟨fun n hn => ?_, fun f hf => ?_, fun x hx => ?_⟩
  · rcases List.mem_cons.1 hn with rfl | hn
    · have := B.lf; have := B.nh; unfold Dg; omega
    · have := hh n hn; unfold Dg; omega
  · have := B.fg f hf; unfold Dg; omega
  · have X := B.sc x hx
    have nf := B.nf; have nh := B.nh
    refine ⟨by have := X.kn; unfold Dg; omega, fun n hn => ?_, fun n hn => ?_, fun n hn => ?_⟩
    · have := (rising_iff.1 X.mv).2 n hn; unfold Dg; omega
    · have := (rising_iff.1 X.rs).2 n hn; unfold Dg; omega
    · have := (rising_iff.1 X.tk).2 n hn; unfold Dg; omega
theorem ok_td {p : Ply} (h : plOK p = true) : TdP p := B_td (plOK_B h) (plOK_ht h)
theorem fig_td {b c d : List UInt8} {f : Fgr} (h : figO b c d = some (.fig f)) : (1 ≤ f.side ∧ f.side ≤ 3) ∧ Dg f.rank ∧ Dg f.hands := by
  unfold figO at h
  split at h
  · rename_i s r k hs hn
    simp only [Option.some.injEq, Ln.fig.injEq] at h
    subst h
    have := nums_dg hn
    exact ⟨(sideO_some hs).1, this r (by simp), this k (by simp)⟩
  · cases h
theorem scn_td {b c d e : List UInt8} {x : Scn} (h : scnO b c d e = some (.scn x)) : Dg x.knocks ∧ (∀ n ∈ x.moved, Dg n) ∧ (∀ n ∈ x.rest, Dg n) ∧ ∀ n ∈ x.taken, Dg n := by
  unfold scnO at h
  split at h
  · rename_i k m r t hk hm hr ht
    simp only [Option.some.injEq, Ln.scn.injEq] at h
    subst h
    exact ⟨num_dg hk, list_dg hm, list_dg hr, list_dg ht⟩
  · cases h
def LnOK : Ln → Prop
  | .fig f => (1 ≤ f.side ∧ f.side ≤ 3) ∧ Dg f.rank ∧ Dg f.hands
  | .scn x => Dg x.knocks ∧ (∀ n ∈ x.moved, Dg n) ∧ (∀ n ∈ x.rest, Dg n) ∧ ∀ n ∈ x.taken, Dg n
theorem words_td {ws : List (List UInt8)} {q : Ln} (h : wordsO ws = some q) : LnOK q := by
  unfold wordsO at h
  split at h
  · split at h
    · cases q with
      | fig f => exact fig_td h
      | scn x => unfold figO at h; split at h <;> simp at h
    · cases h
  · split at h
    · cases q with
      | fig f => unfold scnO at h; split at h <;> simp at h
      | scn x => exact scn_td h
    · cases h
  · cases h
theorem mem_figs {q : List Ln} {f : Fgr} (h : f ∈ figsOf q) : Ln.fig f ∈ q := by
  unfold figsOf at h
  obtain ⟨a, ha, e⟩ := List.mem_filterMap.1 h
  cases a with
  | fig g => simp only [Option.some.injEq] at e; subst e; exact ha
  | scn x => cases e
theorem mem_scs {q : List Ln} {x : Scn} (h : x ∈ scsOf q) : Ln.scn x ∈ q := by
  unfold scsOf at h
  obtain ⟨a, ha, e⟩ := List.mem_filterMap.1 h
  cases a with
  | fig g => cases e
  | scn y => simp only [Option.some.injEq] at e; subst e; exact ha
theorem td_of {h : Int × List Int} {q : List Ln} (hh : ∀ n ∈ h.1 :: h.2, Dg n) (hq : ∀ a ∈ q, LnOK a) : TdP ⟨h.1, h.2, figsOf q, scsOf q⟩ :=
  ⟨hh, fun f hf => hq _ (mem_figs hf), fun x hx => hq _ (mem_scs hx)⟩
theorem head_dg {r : List UInt8} {h : Int × List Int} (e : topO r = some h) : ∀ n ∈ h.1 :: h.2, Dg n := by
  unfold topO at e
  split at e
  · rename_i l hs hn; cases e; exact nums_dg hn
  · cases e
theorem words_len {l : List Int} (h : ∀ n ∈ l, Dg n) : ∀ w ∈ wordsOf l, w.length ≤ 1 := fun w hw => by
  obtain ⟨n, hn, rfl⟩ := List.mem_map.1 hw
  have := (dg_num (h n hn)).2
  omega
theorem prelenc {B : Nat} {ws : List (List UInt8)} (h : ∀ w ∈ ws, w.length ≤ B) : ((ws.map fun w => (44 : UInt8) :: w).flatten).length ≤ (B + 1) * ws.length := by
  induction ws with
  | nil => simp
  | cons w ws ih =>
    have h1 := h w (by simp)
    have h2 := ih (fun x hx => h x (List.mem_cons_of_mem _ hx))
    simp only [List.map_cons, List.flatten_cons, List.length_append, List.length_cons, Nat.mul_add]
    omega
theorem listW_len {l : List Int} (h : ∀ n ∈ l, Dg n) : (listW l).length ≤ 2 * l.length + 1 := by
  cases l with
  | nil => unfold listW; simp
  | cons n l =>
    unfold listW; rw [if_neg (by simp)]
    unfold wordsOf; rw [List.map_cons, joinc_eq, List.length_append]
    have h1 := (dg_num (h n (by simp))).2
    have h2 := prelenc (B := 1) (ws := l.map Lib.itoa) (words_len fun m hm => h m (List.mem_cons_of_mem _ hm))
    rw [List.length_map] at h2
    simp only [List.length_cons]; omega
theorem head_len {p : Ply} (td : TdP p) : (lnHead p).length ≤ 2 * p.hts.length + 6 := by
  unfold lnHead; rw [join_eq, List.length_append]
  have h := prelen (B := 1) (words_len td.head)
  have e : (wordsOf (p.left :: p.hts)).length = p.hts.length + 1 := by simp [wordsOf]
  have e2 : wStem.length = 4 := rfl
  unfold preL; omega
theorem fig_len {f : Fgr} (hf : Dg f.rank ∧ Dg f.hands) : (lnFig f).length ≤ 17 := by
  have a := (dg_num hf.1).2
  have b := (dg_num hf.2).2
  have c : (sideW f.side).length ≤ 6 := by unfold sideW; split; decide; split <;> decide
  have e2 : wFig.length = 6 := rfl
  unfold lnFig wordsOf; rw [join_eq, List.length_append]
  simp only [preL, List.map_cons, List.map_nil, List.flatten_cons, List.flatten_nil, List.length_append, List.length_cons, List.length_nil]
  omega
theorem scn_len {x : Scn} (h : Dg x.knocks ∧ (∀ n ∈ x.moved, Dg n) ∧ (∀ n ∈ x.rest, Dg n) ∧ ∀ n ∈ x.taken, Dg n) : (lnScn x).length ≤ 2 * (x.moved.length + x.rest.length + x.taken.length) + 13 := by
  have a := (dg_num h.1).2
  have b := listW_len h.2.1
  have c := listW_len h.2.2.1
  have d := listW_len h.2.2.2
  have e2 : wScn.length = 5 := rfl
  unfold lnScn; rw [join_eq, List.length_append]
  simp only [preL, List.map_cons, List.map_nil, List.flatten_cons, List.flatten_nil, List.length_append, List.length_cons, List.length_nil]
  omega
theorem ok_lines {p : Ply} (h : plOK p = true) : (linesS p).length ≤ 12 ∧ (lnHead p).length ≤ 18 ∧ (∀ l ∈ p.figs.map lnFig, l.length ≤ 17) ∧ (∀ l ∈ p.scs.map lnScn, l.length ≤ 45) := by
  have B := plOK_B h
  have td := ok_td h
  have nf := B.nf; have ns := B.ns; have nh := B.nh
  refine ⟨by simp [linesS]; omega, by have := head_len td; omega, fun l hl => ?_, fun l hl => ?_⟩
  · obtain ⟨f, hf, rfl⟩ := List.mem_map.1 hl
    exact fig_len (td.fig f hf).2
  · obtain ⟨x, hx, rfl⟩ := List.mem_map.1 hl
    have X := B.sc x hx
    have h1 := scn_len (td.scn x hx)
    have h2 := rising_len X.mv; have h3 := X.r4; have h4 := rising_len X.tk
    omega
theorem ok_line {p : Ply} (h : plOK p = true) : ∀ l ∈ linesS p, l.length ≤ 45 := fun l hl => by
  obtain ⟨_, h1, h2, h3⟩ := ok_lines h
  unfold linesS at hl
  rcases List.mem_cons.1 hl with rfl | hl
  · omega
  · rcases List.mem_append.1 hl with hl | hl
    · have := h2 l hl; omega
    · exact h3 l hl
end St
namespace St
open Go Go.Ab Ni
open Hd (numO allO allO_ok allO_inv allO_bad allO_mem wordsOf preL join_eq cut_ne numO_facts numO_word numO_val numO_dig numO_len numO_nil getD_at ixQ)
theorem num1_some {c : UInt8} (h : isD c = true) : numO 1 [c] = some ((c.toNat : Int) - 48) := by
  have hb := (isD_iff _).1 h
  have hd : Dg ((c.toNat : Int) - 48) := by unfold Dg; omega
  have h1 := (dg_num hd).1
  have hw := numO_word h1
  have hv : valN [c] = (c.toNat : Int) - 48 := by unfold valN; simp
  have hi : Lib.itoa ((c.toNat : Int) - 48) = [c] := by
    unfold Lib.itoa
    rw [if_neg (by omega)]
    rw [Lib.decDigits, dif_pos (by omega)]
    congr 1
    apply UInt8.toNat_inj.1
    simp; omega
  rw [← hi]; exact h1
theorem num1_bad {c : UInt8} (h : isD c = false) : numO 1 [c] = none := numO_dig (k := 0) (by simp) h
theorem num1_len {w : List UInt8} (h : w.length ≠ 1) : numO 1 w = none := by
  cases w with
  | nil => exact numO_nil
  | cons a w => exact numO_len (by simp only [List.length_cons] at h ⊢; omega)
def dgs (w : List UInt8) (k : Nat) : List Int := (w.take k).map fun c => (c.toNat : Int) - 48
theorem dgs_succ {w : List UInt8} {k : Nat} (h : k < w.length) : dgs w (k + 1) = dgs w k ++ [(w[k].toNat : Int) - 48] := by
  unfold dgs; rw [List.take_succ_eq_append_getElem h, List.map_append]; rfl
def dgV (w : List UInt8) : Int := (w.headD 0).toNat - 48
theorem dgs_one {w : List UInt8} (h : w.length = 1) : dgs w w.length = [dgV w] := by
  obtain ⟨c, rfl⟩ := List.length_eq_one_iff.1 h
  rfl
theorem num1_all {w : List UInt8} (h : w.length = 1) (hd : ∀ i, (hi : i < w.length) → isD w[i] = true) : numO 1 w = some (dgV w) := by
  obtain ⟨c, rfl⟩ := List.length_eq_one_iff.1 h
  exact num1_some (hd 0 (by simp))
theorem cut_joins : ∀ (w : List UInt8), Lib.join (cut 32 w) [32] = w
  | [] => by simp [cut, Lib.join, List.intercalate]
  | b :: w => by
    have ih := cut_joins w
    rw [cut]
    split
    · rename_i e
      subst e
      cases hc : cut 32 w with
      | nil => exact absurd hc (cut_ne 32 w)
      | cons x xs => rw [hc, join_eq] at ih; rw [join_eq]; simp [preL] at ih ⊢; exact ih
    · cases hc : cut 32 w with
      | nil => exact absurd hc (cut_ne 32 w)
      | cons x xs =>
        rw [hc, join_eq] at ih
        simp only
        rw [join_eq, List.cons_append, ih]
theorem row_line {r : List UInt8} {q : Ln} (h : rowQ r = some q) : (match q with | .fig f => lnFig f | .scn x => lnScn x) = r := by
  have hj := cut_joins r
  unfold rowQ wordsO at h
  split at h
  · rename_i a b c d hc
    split at h
    · rename_i ha
      unfold figO at h
      split at h
      · rename_i s n k hs hn
        cases h
        show lnFig ⟨s, n, k⟩ = r
        unfold lnFig
        rw [(sideO_some hs).2, nums_words hn, ← ha, ← hc]; exact hj
      · cases h
    · cases h
  · rename_i a b c d e hc
    split at h
    · rename_i ha
      unfold scnO at h
      split at h
      · rename_i k m n t hk hm hn ht
        cases h
        show lnScn ⟨m, n, k, t⟩ = r
        unfold lnScn
        rw [numO_word hk, list_word hm, list_word hn, list_word ht, ← ha, ← hc]; exact hj
      · cases h
    · cases h
  · cases h
theorem list_len {w : List UInt8} {l : List Int} (h : listO w = some l) : l.length ≤ w.length + 1 := by
  unfold listO at h
  split at h
  · cases h; simp
  · have := (allO_inv h).1
    have := (cut_len 44 w).1
    omega
theorem scn_lens {r : List UInt8} {x : Scn} (h : rowQ r = some (.scn x)) : ∀ l ∈ [x.moved, x.rest, x.taken], l.length ≤ r.length + 1 ∧ (listW l).length ≤ r.length := by
  unfold rowQ wordsO at h
  split at h
  · split at h
    · unfold figO at h; split at h <;> simp at h
    · cases h
  · rename_i a b c d e hc
    have hm := cut_mem 32 r
    rw [hc] at hm
    split at h
    · unfold scnO at h
      split at h
      · rename_i k m n t hk h1 h2 h3
        cases h
        intro l hl
        simp only [List.mem_cons, List.not_mem_nil, or_false] at hl
        rcases hl with rfl | rfl | rfl
        · have := hm c (by simp); have := list_len h1; rw [list_word h1]; omega
        · have := hm d (by simp); have := list_len h2; rw [list_word h2]; omega
        · have := hm e (by simp); have := list_len h3; rw [list_word h3]; omega
      · cases h
    · cases h
  · cases h
theorem figs_le (q : List Ln) : (figsOf q).length ≤ q.length := List.length_filterMap_le _ _
theorem scs_le (q : List Ln) : (scsOf q).length ≤ q.length := List.length_filterMap_le _ _
theorem figs_snoc_f (q : List Ln) (f : Fgr) : figsOf (q ++ [.fig f]) = figsOf q ++ [f] := figsOf_app _ _
theorem figs_snoc_x (q : List Ln) (x : Scn) : figsOf (q ++ [.scn x]) = figsOf q := (figsOf_app _ _).trans (List.append_nil _)
theorem scs_snoc_f (q : List Ln) (f : Fgr) : scsOf (q ++ [.fig f]) = scsOf q := (scsOf_app _ _).trans (List.append_nil _)
theorem scs_snoc_x (q : List Ln) (x : Scn) : scsOf (q ++ [.scn x]) = scsOf q ++ [x] := scsOf_app _ _
theorem few_none {s : List UInt8} (h : (cut 10 s).length < 3) : parseS s = none := by
  have : rowsS s = none := by
    unfold rowsS
    split
    · rename_i r0 rs hc; rw [hc] at h; rw [if_neg (by simp at h; omega)]
    · rfl
  unfold parseS; rw [this]
section
variable {s r0 : List UInt8} {rs : List (List UInt8)} (hR : cut 10 s = r0 :: rs)
include hR
theorem top_none (h : topO r0 = none) : parseS s = none := by
  have : rowsS s = none := by unfold rowsS; rw [hR]; simp only; rw [h]; split <;> rfl
  unfold parseS; rw [this]
theorem bad_none (h : allO rowQ (rs.take (rs.length - 2)) = none) : parseS s = none := by
  have : rowsS s = none := by unfold rowsS; rw [hR]; simp only; rw [h]; split; (cases topO r0 <;> rfl); rfl
  unfold parseS; rw [this]
theorem all_rows {h : Int × List Int} {q : List Ln} (h2 : 2 ≤ rs.length) (h0 : topO r0 = some h) (h3 : allO rowQ (rs.take (rs.length - 2)) = some q) : rowsS s = some ⟨h.1, h.2, figsOf q, scsOf q⟩ := by
  unfold rowsS; rw [hR]; simp only; rw [if_pos h2, h0, h3]
end
theorem topO_num {row : List UInt8} (h : allO (numO 1) ((cut 32 row).drop 1) = none) : topO row = none := by unfold topO; rw [h]
theorem topO_nil {row : List UInt8} (h : allO (numO 1) ((cut 32 row).drop 1) = some []) : topO row = none := by unfold topO; rw [h]
theorem topO_ok {row : List UInt8} {l : Int} {hs : List Int} (h : allO (numO 1) ((cut 32 row).drop 1) = some (l :: hs)) : topO row = some (l, hs) := by unfold topO; rw [h]
theorem words_none {ws : List (List UInt8)} (h : 0 < ws.length) (h1 : ¬ (ws[0] = wFig ∧ ws.length = 4)) (h2 : ¬ (ws[0] = wScn ∧ ws.length = 5)) : wordsO ws = none := by
  unfold wordsO
  split
  · exact if_neg (fun e => h1 ⟨e, rfl⟩)
  · exact if_neg (fun e => h2 ⟨e, rfl⟩)
  · rfl
theorem words_fig (b c d : List UInt8) : wordsO [wFig, b, c, d] = figO b c d := by show (if wFig = wFig then figO b c d else none) = _; rw [if_pos rfl]
theorem words_scn (b c d e : List UInt8) : wordsO [wScn, b, c, d, e] = scnO b c d e := by show (if wScn = wScn then scnO b c d e else none) = _; rw [if_pos rfl]
theorem four {ws : List (List UInt8)} (h : ws.length = 4) : ∃ a b c d, ws = [a, b, c, d] := by
  match ws, h with
  | [a, b, c, d], _ => exact ⟨a, b, c, d, rfl⟩
theorem five {ws : List (List UInt8)} (h : ws.length = 5) : ∃ a b c d e, ws = [a, b, c, d, e] := by
  match ws, h with
  | [a, b, c, d, e], _ => exact ⟨a, b, c, d, e, rfl⟩
theorem side_ix (w : List UInt8) : (ixQ (fun x => decide (w = x)) [[], wLef, wRig, wEit] ≤ 0 ∧ sideO w = none) ∨ (0 < ixQ (fun x => decide (w = x)) [[], wLef, wRig, wEit] ∧ sideO w = some (ixQ (fun x => decide (w = x)) [[], wLef, wRig, wEit])) := by
  unfold sideO
  by_cases h0 : w = []
  · subst h0; left; decide
  · by_cases h1 : w = wLef
    · subst h1; right; decide
    · by_cases h2 : w = wRig
      · subst h2; right; decide
      · by_cases h3 : w = wEit
        · subst h3; right; decide
        · left
          rw [if_neg h1, if_neg h2, if_neg h3]
          refine ⟨?_, rfl⟩
          simp [ixQ, List.findIdx?_cons, h0, h1, h2, h3]
end St
