/-
  What a shadow is, and what is computed of it, plainly, with no program in sight. Conditions: none.
-/
import Derived.Test.YtmbknoaneglilaaGreatDoorLogicD
import Derived.Lib.ItoaNum
import Derived.Lib.Join
set_option linter.all false
namespace Ni
structure Sc where
  part : Int
  least : Int
  most : Int
  loose : Bool
  wants : Int
  deriving DecidableEq, Inhabited
structure Pl where
  beg : Int
  s0l : Int
  s0h : Int
  s1l : Int
  s1h : Int
  dl : Int
  dh : Int
  scenes : List Sc
  deriving DecidableEq, Inhabited
def inn (n lo hi : Int) : Bool := decide (lo ≤ n) && decide (n ≤ hi)
def scBad (l : List Sc) (i : Nat) (h : i < l.length) : Bool :=
  !inn l[i].part 0 2 || (decide (0 < i) && decide (l[i].part < (l[i - 1]'(by omega)).part)) || !inn l[i].least 1 240 || !inn l[i].most l[i].least 240 || !inn l[i].wants (-1) (l.length - 1) || decide (l[i].wants = i)
def loosies (l : List Sc) : Nat := l.countP (·.loose)
def ScOK (l : List Sc) : Prop := (∀ i, (h : i < l.length) → scBad l i h = false) ∧ loosies l ≤ 6
instance (l : List Sc) : Decidable (ScOK l) := inferInstanceAs (Decidable (_ ∧ _))
def scn (p : Pl) (x : Nat) : Sc := p.scenes.getD x default
theorem scn_eq {p : Pl} {x : Nat} (h : x < p.scenes.length) : scn p x = p.scenes[x] := by simp [scn, List.getD_eq_getElem?_getD, h]
theorem scn_mem {p : Pl} {x : Nat} (h : x < p.scenes.length) : scn p x ∈ p.scenes := by rw [scn_eq h]; exact List.getElem_mem h
def ssum (f : Nat → Int) (c : Nat → Bool) (l : List Nat) : Int := ((l.filter c).map f).sum
structure GP (p : Pl) : Prop where
  len : p.scenes.length ≤ 16
  vals : ∀ x ∈ p.scenes, 0 ≤ x.least ∧ x.least ≤ 10000 ∧ 0 ≤ x.most ∧ x.most ≤ 10000
  beg : -10000 ≤ p.beg ∧ p.beg ≤ 10000
  s0l : 0 ≤ p.s0l ∧ p.s0l ≤ 10000
  s0h : 0 ≤ p.s0h ∧ p.s0h ≤ 10000
  s1l : 0 ≤ p.s1l ∧ p.s1l ≤ 10000
  s1h : 0 ≤ p.s1h ∧ p.s1h ≤ 10000
  dl : 0 ≤ p.dl ∧ p.dl ≤ 10000
  dh : 0 ≤ p.dh ∧ p.dh ≤ 10000
theorem GP.most {p : Pl} (g : GP p) {x : Nat} (h : x < p.scenes.length) : 0 ≤ (scn p x).most ∧ (scn p x).most ≤ 10000 := (g.vals _ (scn_mem h)).2.2
structure CV (p : Pl) (l : List Nat) : Prop where
  len : l.length ≤ 1000
  rng : ∀ x ∈ l, x < p.scenes.length
def inP (p : Pl) (part a b : Int) (x : Nat) : Bool := decide ((scn p x).part = part) && decide (a ≤ (x : Int)) && decide ((x : Int) ≤ b)
def lo (p : Pl) (l : List Nat) (part a b : Int) : Int := ssum (fun x => (scn p x).least) (inP p part a b) l
def hi (p : Pl) (l : List Nat) (part a b : Int) : Int := ssum (fun x => (scn p x).most) (inP p part a b) l
def fm {α : Type} (n : Nat) (f : Nat → List α) : List α := (List.range n).flatMap f
def wid (a b : Int) : Nat := (b - a + 1).toNat
def hC (p : Pl) (l : List Nat) (a b : Int) (k : Nat) : List (Int × Int × Int) := if inn (p.dl + k - b) (lo p l 2 0 10) (hi p l 2 0 10) = true then [(a, b, p.dl + k)] else []
def hB (p : Pl) (l : List Nat) (a : Int) (j : Nat) : List (Int × Int × Int) := if inn (p.s1l + j - a) (lo p l 1 0 10) (hi p l 1 0 10) = true then fm (wid p.dl p.dh) (hC p l a (p.s1l + j)) else []
def hA (p : Pl) (l : List Nat) (i : Nat) : List (Int × Int × Int) := if inn (p.s0l + i - p.beg) (lo p l 0 0 10) (hi p l 0 0 10) = true then fm (wid p.s1l p.s1h) (hB p l (p.s0l + i)) else []
def hrs (p : Pl) (l : List Nat) : List (Int × Int × Int) := fm (wid p.s0l p.s0h) (hA p l)
end Ni
namespace Ni
def fuel (p : Pl) (k : Nat) (n : Int) : Nat := ((scn p k).most - n).toNat
end Ni
namespace Ni
def leasts (p : Pl) (xs : List Nat) : List Int := xs.map fun x => (scn p x).least
def mosts (p : Pl) (xs : List Nat) : List Int := xs.map fun x => (scn p x).most
theorem map_take_succ {α β : Type} (f : α → β) {l : List α} {k : Nat} (h : k < l.length) : (l.take (k + 1)).map f = (l.take k).map f ++ [f l[k]] := by
  rw [List.take_succ_eq_append_getElem h, List.map_append]; rfl
def lsum (p : Pl) (xs : List Nat) : Int := (leasts p xs).sum
def hsum (p : Pl) (xs : List Nat) : Int := (mosts p xs).sum
def inPart (p : Pl) (part : Int) (x : Nat) : Bool := decide ((scn p x).part = part)
def ofP (p : Pl) (l : List Nat) (part : Int) : List Nat := l.filter (inPart p part)
def pl (p : Pl) (l : List Nat) (k : Nat) : Int := lsum p (ofP p l k)
def ph (p : Pl) (l : List Nat) (k : Nat) : Int := hsum p (ofP p l k)
end Ni
namespace Ni
open Go Go.Ab
def isD (b : UInt8) : Bool := decide (48 ≤ b.toNat) && decide (b.toNat ≤ 57)
def valN (l : List UInt8) : Int := l.foldl (fun a b => 10 * a + ((b.toNat : Int) - 48)) 0
theorem valN_snoc (l : List UInt8) (b : UInt8) : valN (l ++ [b]) = 10 * valN l + ((b.toNat : Int) - 48) := by simp [valN, List.foldl_append]
theorem valN_take {l : List UInt8} {k : Nat} (h : k < l.length) : valN (l.take (k + 1)) = 10 * valN (l.take k) + ((l[k].toNat : Int) - 48) := by
  rw [List.take_succ_eq_append_getElem h, valN_snoc]
theorem isD_iff (b : UInt8) : isD b = true ↔ 48 ≤ b.toNat ∧ b.toNat ≤ 57 := by simp [isD]
theorem valN_bd {l : List UInt8} : ∀ {k : Nat}, k ≤ l.length → (∀ i, (h : i < l.length) → i < k → isD l[i] = true) → 0 ≤ valN (l.take k) ∧ valN (l.take k) < ((10 ^ k : Nat) : Int)
  | 0, _, _ => by simp [valN]
  | k + 1, hk, h => by
    have ih := valN_bd (l := l) (k := k) (by omega) fun i hi hik => h i hi (by omega)
    have hd := (isD_iff _).1 (h k (by omega) (by omega))
    rw [valN_take (by omega)]
    have : ((10 ^ (k + 1) : Nat) : Int) = 10 * ((10 ^ k : Nat) : Int) := by rw [Nat.pow_succ]; simp; omega
    omega
theorem valN_999 {l : List UInt8} {k : Nat} (hk : k ≤ l.length) (h3 : k ≤ 3) (h : ∀ i, (h : i < l.length) → i < k → isD l[i] = true) : 0 ≤ valN (l.take k) ∧ valN (l.take k) < 1000 := by
  have h1 := valN_bd hk h
  have : (10 ^ k : Nat) ≤ 10 ^ 3 := Nat.pow_le_pow_right (by omega) h3
  omega
theorem dec_cases {w : List UInt8} {k : Nat} (h : k < w.length) : ((w[k]).toNat < 128 ∧ Utf8.decode ⟨w.toArray⟩ k = ((w[k]).toNat, 1)) ∨ (128 ≤ (w[k]).toNat ∧ 128 ≤ (Utf8.decode ⟨w.toArray⟩ k).1) := by
  have hk : k < (⟨w.toArray⟩ : ByteArray).size := by simp [ByteArray.size]; exact h
  have e : (⟨w.toArray⟩ : ByteArray)[k] = w[k] := rfl
  rcases Nat.lt_or_ge (w[k]).toNat 128 with ha | ha
  · exact .inl ⟨ha, by rw [decode_ascii _ _ hk (by rw [e]; exact ha), e]⟩
  · exact .inr ⟨ha, (decode_high _ _ hk (by rw [e]; exact ha)).1⟩
theorem dec_yes {w : List UInt8} {k : Nat} (h : k < w.length) (h1 : 48 ≤ (Utf8.decode ⟨w.toArray⟩ k).1) (h2 : (Utf8.decode ⟨w.toArray⟩ k).1 ≤ 57) : Utf8.decode ⟨w.toArray⟩ k = ((w[k]).toNat, 1) ∧ isD w[k] = true := by
  rcases dec_cases h with ⟨_, e⟩ | ⟨_, e⟩
  · refine ⟨e, (isD_iff _).2 ?_⟩
    rw [e] at h1 h2; exact ⟨h1, h2⟩
  · omega
theorem dec_no {w : List UInt8} {k : Nat} (h : k < w.length) (h1 : ¬ (48 ≤ (Utf8.decode ⟨w.toArray⟩ k).1 ∧ (Utf8.decode ⟨w.toArray⟩ k).1 ≤ 57)) : isD w[k] = false := by
  rcases dec_cases h with ⟨_, e⟩ | ⟨e1, e⟩
  · rw [e] at h1; simp only at h1
    rw [Bool.eq_false_iff]; intro hd; exact h1 ((isD_iff _).1 hd)
  · rw [Bool.eq_false_iff]; intro hd; have := (isD_iff _).1 hd; omega
end Ni
namespace Ni
open Go Go.Ab
def csT (m : Int) (l : List UInt8) (k : Nat) : Int := ((List.range k).map fun (j : Nat) => ((l.getD j 0).toNat : Int) * ((j : Int) + 1) * m).sum
theorem csT_succ (m : Int) {l : List UInt8} {k : Nat} (h : k < l.length) : csT m l (k + 1) = csT m l k + ((l[k].toNat : Int) * ((k : Int) + 1) * m) := by
  unfold csT
  rw [List.range_succ, List.map_append, List.sum_append]
  simp [List.getD_eq_getElem?_getD, h]
theorem term_bd {b : UInt8} {j : Nat} {m : Int} (hj : j < 1000) (hm : 0 ≤ m ∧ m ≤ 2000) : (0 ≤ (b.toNat : Int) * ((j : Int) + 1) ∧ (b.toNat : Int) * ((j : Int) + 1) ≤ 255000) ∧ 0 ≤ (b.toNat : Int) * ((j : Int) + 1) * m ∧ (b.toNat : Int) * ((j : Int) + 1) * m ≤ 510000000 := by
  have hb : b.toNat < 256 := b.toNat_lt
  have h1 : 0 ≤ (b.toNat : Int) * ((j : Int) + 1) := Int.mul_nonneg (by omega) (by omega)
  have h2 : (b.toNat : Int) * ((j : Int) + 1) ≤ 255 * 1000 := Int.mul_le_mul (by omega) (by omega) (by omega) (by omega)
  have h3 : (b.toNat : Int) * ((j : Int) + 1) * m ≤ 255000 * 2000 := Int.mul_le_mul (by omega) hm.2 hm.1 (by omega)
  exact ⟨⟨h1, by omega⟩, Int.mul_nonneg h1 hm.1, by omega⟩
theorem csT_bd {m : Int} (hm : 0 ≤ m ∧ m ≤ 2000) (l : List UInt8) : ∀ k, k ≤ l.length → l.length ≤ 1000 → 0 ≤ csT m l k ∧ csT m l k ≤ 510000000 * k
  | 0, _, _ => by simp [csT]
  | k + 1, hk, hl => by
    have ih := csT_bd hm l k (by omega) hl
    rw [csT_succ m (by omega)]
    have := term_bd (b := l[k]) (j := k) (m := m) (by omega) hm
    omega
def csL (m : Int) (l : List UInt8) : Int := csT m l l.length
def ctT (ls : List (List UInt8)) (i : Nat) : Int := ((List.range i).map fun (j : Nat) => csL ((j : Int) + 1) (ls.getD j [])).sum
theorem ctT_succ {ls : List (List UInt8)} {i : Nat} (h : i < ls.length) : ctT ls (i + 1) = ctT ls i + csL ((i : Int) + 1) ls[i] := by
  unfold ctT
  rw [List.range_succ, List.map_append, List.sum_append]
  simp [List.getD_eq_getElem?_getD, h]
theorem ctT_bd {ls : List (List UInt8)} (hl : ls.length ≤ 1999) (hb : ∀ l ∈ ls, l.length ≤ 1000) : ∀ i, i ≤ ls.length → 0 ≤ ctT ls i ∧ ctT ls i ≤ 510000000000 * i
  | 0, _ => by simp [ctT]
  | i + 1, hi => by
    have ih := ctT_bd hl hb i (by omega)
    rw [ctT_succ (by omega)]
    have h1 := hb _ (List.getElem_mem (show i < ls.length by omega))
    have := csT_bd (m := (i : Int) + 1) ⟨by omega, by omega⟩ ls[i] ls[i].length (Nat.le_refl _) h1
    unfold csL; omega
def outT (ls : List (List UInt8)) (i : Nat) : List UInt8 := ((ls.take i).map fun l => l ++ [10]).flatten
theorem outT_succ {ls : List (List UInt8)} {i : Nat} (h : i < ls.length) : outT ls (i + 1) = outT ls i ++ (ls[i] ++ [10]) := by
  unfold outT; rw [map_take_succ _ h, List.flatten_append]; simp
theorem outT_len {ls : List (List UInt8)} (hb : ∀ l ∈ ls, l.length ≤ 1000) : ∀ i, i ≤ ls.length → (outT ls i).length ≤ 1001 * i
  | 0, _ => by simp [outT]
  | i + 1, hi => by
    have ih := outT_len hb i (by omega)
    have h1 := hb _ (List.getElem_mem (show i < ls.length by omega))
    rw [outT_succ (by omega), List.length_append, List.length_append]; simp; omega
def digs3 (c : Int) : List UInt8 := Lib.itoa (c / 100) ++ Lib.itoa (c / 10 % 10) ++ Lib.itoa (c % 10)
theorem qd {c d : Int} (h : 0 ≤ c) (h2 : c ≤ 1000000) (hd : 0 < d) : IntKind.i64.wrap (c.tdiv d) = c / d := by
  rw [Int.tdiv_eq_ediv_of_nonneg h]
  have h3 := Int.ediv_nonneg h (Int.le_of_lt hd)
  have h4 := Int.ediv_le_self d h
  exact IntWalk.i64_in _ ⟨by omega, by omega⟩
end Ni
namespace Ol
open Ni (inn)
structure Sg where
  wide : Int
  high : Int
  far : Int
  flame : Int
  x : Int
  y : Int
  deriving DecidableEq, Inhabited
structure Pc where
  near : Int
  x : Int
  y : Int
  deriving DecidableEq, Inhabited
abbrev Fg := List (List UInt8)
def stOK (s : Sg) : Bool := inn s.wide 1 16 && inn s.high 1 16 && inn s.far 2 40 && inn s.flame 0 3 && inn s.x 0 s.wide && inn s.y 0 s.high
def w0 (f : Fg) : Nat := (f.headD []).length
def fgRow (w : Nat) (r : List UInt8) : Bool := decide (r.length = w) && r.all fun c => decide (c = 35 ∨ c = 46)
def fgOK (f : Fg) : Bool := inn f.length 1 6 && inn (w0 f) 1 6 && f.all (fgRow (w0 f)) && f.any fun r => r.any fun c => decide (c = 35)
def awayOK (n : Int) : Bool := inn n (-20) 20
def pcOK (s : Sg) (p : Pc) : Bool := inn p.near 0 (s.far - 1) && awayOK p.x && awayOK p.y
structure Ca where
  s : Sg
  f : Fg
  p : Pc
  deriving DecidableEq, Inhabited
def caOK (c : Ca) : Bool := stOK c.s && fgOK c.f && pcOK c.s c.p
namespace Ca
def frm (c : Ca) (k axis edge : Int) : Int := (axis - edge) * c.s.far + (k - axis) * (c.s.far - c.p.near)
def blur (c : Ca) : Int := c.s.flame * c.p.near
def acr (c : Ca) (k : Int) : Int × Int := (c.frm k c.s.x c.p.x - c.blur, c.frm (k + 1) c.s.x c.p.x + c.blur)
def dwn (c : Ca) (k : Int) : Int × Int := (c.frm k c.s.y c.p.y - c.blur, c.frm (k + 1) c.s.y c.p.y + c.blur)
def mts (c : Ca) (e : Int × Int) : Int × Int := (e.1 / c.s.far, -(-e.2 / c.s.far) - 1)
def hide (c : Ca) (row col : Int) : Bool := inn row 0 (c.f.length - 1) && inn col 0 ((w0 c.f : Int) - 1) && decide ((c.f.getD row.toNat []).getD col.toNat 0 = 35)
end Ca
def rng (a b : Int) : List Int := (List.range (b - a + 1).toNat).map fun (i : Nat) => a + (i : Int)
theorem rng_len (a b : Int) : (rng a b).length = (b - a + 1).toNat := by simp [rng]
theorem mem_rng {a b n : Int} : n ∈ rng a b ↔ a ≤ n ∧ n ≤ b := by
  unfold rng
  rw [List.mem_map]
  constructor
  · rintro ⟨i, hi, rfl⟩; rw [List.mem_range] at hi; omega
  · rintro ⟨h1, h2⟩; exact ⟨(n - a).toNat, by rw [List.mem_range]; omega, by omega⟩
namespace Ca
def rowAll (c : Ca) (m left right : Int) : Bool := (rng left right).all (c.hide m)
def rowAny (c : Ca) (m left right : Int) : Bool := (rng left right).any (c.hide m)
def boxAll (c : Ca) (h v : Int × Int) : Bool := (rng v.1 v.2).all fun m => c.rowAll m h.1 h.2
def boxAny (c : Ca) (h v : Int × Int) : Bool := (rng v.1 v.2).any fun m => c.rowAny m h.1 h.2
def cellAt (c : Ca) (h v : Int × Int) : UInt8 := if c.boxAll h v = true then 35 else if c.boxAny h v = true then 43 else 46
def cell (c : Ca) (col row : Int) : UInt8 := c.cellAt (c.mts (c.acr col)) (c.mts (c.dwn row))
def srow (c : Ca) (m : Nat) : List UInt8 := (List.range c.s.wide.toNat).map fun (k : Nat) => c.cell (k : Int) (m : Int)
def shadow (c : Ca) : List (List UInt8) := (List.range c.s.high.toNat).map c.srow
def fitsD (c : Ca) (axis edge long wide : Int) : Bool := !(decide (axis * (c.s.far - c.p.near) + (edge - axis) * c.s.far < c.blur) || decide (axis * (c.s.far - c.p.near) + (edge + long - axis) * c.s.far + c.blur > wide * (c.s.far - c.p.near)))
def fits (c : Ca) : Bool := c.fitsD c.s.x c.p.x (w0 c.f) c.s.wide && c.fitsD c.s.y c.p.y c.f.length c.s.high
end Ca
def cnt (ch : UInt8) (rows : List (List UInt8)) : Int := (rows.map fun r => (r.count ch : Int)).sum
def coOK (l : List Fg) : Bool := inn l.length 1 6 && !(l.any fun f => !fgOK f)
structure Rc where
  nl : Int
  nh : Int
  xl : Int
  xh : Int
  y : Int
  deriving DecidableEq, Inhabited
def spOK (lo hi : Int) : Bool := inn (hi - lo) 0 5
def rcOK (s : Sg) (r : Rc) : Bool := pcOK s ⟨r.nl, r.xl, r.y⟩ && pcOK s ⟨r.nh, r.xh, r.y⟩ && spOK r.nl r.nh && spOK r.xl r.xh
def siRow (w : Int) (r : List UInt8) : Bool := decide ((r.length : Int) = w) && !(r.any fun c => decide (c ≠ 35 ∧ c ≠ 43 ∧ c ≠ 46 ∧ c ≠ 63))
def siOK (s : Sg) (l : List (List UInt8)) : Bool := decide ((l.length : Int) = s.high) && l.all (siRow s.wide)
structure Sn where
  s : Sg
  l : List Fg
  r : Rc
  deriving DecidableEq, Inhabited
def snOK (x : Sn) : Bool := stOK x.s && coOK x.l && rcOK x.s x.r
structure Rd where
  fig : Nat
  p : Pc
  deriving DecidableEq, Inhabited
structure Th where
  rd : Rd
  sh : List (List UInt8)
  deriving DecidableEq, Inhabited
def thrown (x : Sn) (i : Nat) (n k : Int) : Th := ⟨⟨i, ⟨n, k, x.r.y⟩⟩, (Ca.mk x.s (x.l.getD i []) ⟨n, k, x.r.y⟩).shadow⟩
def rdX (x : Sn) (i : Nat) (n : Int) : List Th := (rng x.r.xl x.r.xh).map (thrown x i n)
def rdN (x : Sn) (i : Nat) : List Th := (rng x.r.nl x.r.nh).flatMap (rdX x i)
def rdgs (x : Sn) : List Th := (List.range x.l.length).flatMap (rdN x)
def opp (a b : UInt8) : Bool := (decide (a = 35) && decide (b = 46)) || (decide (a = 46) && decide (b = 35))
def agreeRow (a b : List UInt8) : Bool := (List.zip a b).all fun q => !opp q.1 q.2
def agree (a b : List (List UInt8)) : Bool := (List.zip a b).all fun q => agreeRow q.1 q.2
def agrees (x : Sn) (sight : List (List UInt8)) : List Th := (rdgs x).filter fun t => agree t.sh sight
end Ol
namespace Ol
open Ni (inn)
def hasH (r : List UInt8) : Bool := r.any fun c => decide (c = 35)
def chOK (c : UInt8) : Bool := decide (c = 35 ∨ c = 46)
theorem fg_row_bad {f : Fg} {k : Nat} (h : k < f.length) (hb : fgRow (w0 f) f[k] = false) : fgOK f = false := by
  unfold fgOK
  have : f.all (fgRow (w0 f)) = false := by
    rw [List.all_eq_false]; exact ⟨_, List.getElem_mem h, by simp [hb]⟩
  rw [this]; simp
theorem fgRow_len {w : Nat} {r : List UInt8} (h : r.length ≠ w) : fgRow w r = false := by unfold fgRow; simp [h]
theorem fgRow_ch {w : Nat} {r : List UInt8} {j : Nat} (h : j < r.length) (hb : chOK r[j] = false) : fgRow w r = false := by
  unfold fgRow
  have : (r.all fun c => decide (c = 35 ∨ c = 46)) = false := by
    rw [List.all_eq_false]; exact ⟨_, List.getElem_mem h, by unfold chOK at hb; simp [hb]⟩
  rw [this]; simp
theorem fgRow_ok {w : Nat} {r : List UInt8} (h : r.length = w) (k : ∀ j, (h : j < r.length) → chOK r[j] = true) : fgRow w r = true := by
  unfold fgRow
  rw [Bool.and_eq_true]
  refine ⟨by simpa using h, List.all_eq_true.2 fun x hx => ?_⟩
  obtain ⟨j, hj, rfl⟩ := List.getElem_of_mem hx
  exact k j hj
theorem fg_end {f : Fg} (h1 : inn f.length 1 6 = true) (h2 : inn (w0 f) 1 6 = true) (h : ∀ i, (h : i < f.length) → fgRow (w0 f) f[i] = true) : fgOK f = f.any hasH := by
  unfold fgOK
  have : f.all (fgRow (w0 f)) = true := List.all_eq_true.2 fun x hx => by
    obtain ⟨j, hj, rfl⟩ := List.getElem_of_mem hx; exact h j hj
  rw [h1, h2, this]; rfl
theorem any_take {α : Type} {q : α → Bool} {l : List α} {k : Nat} (h : k < l.length) : (l.take (k + 1)).any q = ((l.take k).any q || q l[k]) := by
  rw [List.take_succ_eq_append_getElem h, List.any_append]; simp
theorem w0_eq {f : Fg} (h : 0 < f.length) : w0 f = f[0].length := by
  cases f with
  | nil => simp at h
  | cons a l => rfl
end Ol
namespace Ol
open Ni (inn)
theorem mulb {a b A B : Int} (h1 : -A ≤ a) (h2 : a ≤ A) (h3 : -B ≤ b) (h4 : b ≤ B) : -(A * B) ≤ a * b ∧ a * b ≤ A * B := by
  have hA : 0 ≤ A := by omega
  have hB : 0 ≤ B := by omega
  have k : a * b ≤ A * B ∧ (-a) * b ≤ A * B := by
    rcases Int.le_total 0 b with hb | hb
    · exact ⟨Int.le_trans (Int.mul_le_mul_of_nonneg_right h2 hb) (Int.mul_le_mul_of_nonneg_left h4 hA), Int.le_trans (Int.mul_le_mul_of_nonneg_right (by omega : -a ≤ A) hb) (Int.mul_le_mul_of_nonneg_left h4 hA)⟩
    · have e1 : a * b = (-a) * (-b) := (Int.neg_mul_neg a b).symm
      have e2 : (-a) * b = a * (-b) := by rw [Int.neg_mul, Int.mul_neg]
      rw [e1, e2]
      exact ⟨Int.le_trans (Int.mul_le_mul_of_nonneg_right (by omega : -a ≤ A) (by omega)) (Int.mul_le_mul_of_nonneg_left (by omega : -b ≤ B) hA), Int.le_trans (Int.mul_le_mul_of_nonneg_right h2 (by omega)) (Int.mul_le_mul_of_nonneg_left (by omega : -b ≤ B) hA)⟩
  rw [Int.neg_mul] at k
  omega
theorem stOK_iff {s : Sg} : stOK s = true ↔ ((1 ≤ s.wide ∧ s.wide ≤ 16) ∧ (1 ≤ s.high ∧ s.high ≤ 16) ∧ (2 ≤ s.far ∧ s.far ≤ 40) ∧ (0 ≤ s.flame ∧ s.flame ≤ 3) ∧ (0 ≤ s.x ∧ s.x ≤ s.wide) ∧ (0 ≤ s.y ∧ s.y ≤ s.high)) := by
  unfold stOK inn; simp only [Bool.and_eq_true, decide_eq_true_eq, and_assoc]
theorem pcOK_iff {s : Sg} {p : Pc} : pcOK s p = true ↔ ((0 ≤ p.near ∧ p.near ≤ s.far - 1) ∧ (-20 ≤ p.x ∧ p.x ≤ 20) ∧ (-20 ≤ p.y ∧ p.y ≤ 20)) := by
  unfold pcOK awayOK inn; simp only [Bool.and_eq_true, decide_eq_true_eq, and_assoc]
structure CaB (c : Ca) : Prop where
  st : (1 ≤ c.s.wide ∧ c.s.wide ≤ 16) ∧ (1 ≤ c.s.high ∧ c.s.high ≤ 16) ∧ (2 ≤ c.s.far ∧ c.s.far ≤ 40) ∧ (0 ≤ c.s.flame ∧ c.s.flame ≤ 3) ∧ (0 ≤ c.s.x ∧ c.s.x ≤ c.s.wide) ∧ (0 ≤ c.s.y ∧ c.s.y ≤ c.s.high)
  pc : (0 ≤ c.p.near ∧ c.p.near ≤ c.s.far - 1) ∧ (-20 ≤ c.p.x ∧ c.p.x ≤ 20) ∧ (-20 ≤ c.p.y ∧ c.p.y ≤ 20)
  fg : 1 ≤ c.f.length ∧ c.f.length ≤ 6
  w : 1 ≤ w0 c.f ∧ w0 c.f ≤ 6
  row : ∀ i, (h : i < c.f.length) → c.f[i].length = w0 c.f
  ok : fgOK c.f = true
theorem fgOK_facts {f : Fg} (h : fgOK f = true) : (1 ≤ f.length ∧ f.length ≤ 6) ∧ (1 ≤ w0 f ∧ w0 f ≤ 6) ∧ ∀ i, (h : i < f.length) → f[i].length = w0 f := by
  unfold fgOK at h
  simp only [Bool.and_eq_true, inn, decide_eq_true_eq, List.all_eq_true, fgRow] at h
  refine ⟨by omega, by omega, fun i hi => (h.1.2 _ (List.getElem_mem hi)).1⟩
theorem caOK_B {c : Ca} (h : caOK c = true) : CaB c := by
  unfold caOK at h
  simp only [Bool.and_eq_true] at h
  obtain ⟨⟨h1, h2⟩, h3⟩ := h
  obtain ⟨f1, f2, f3⟩ := fgOK_facts h2
  exact ⟨stOK_iff.1 h1, pcOK_iff.1 h3, f1, f2, f3, h2⟩
def U (n : Int) : Prop := -20000 ≤ n ∧ n ≤ 20000
theorem frm_bd {c : Ca} (h : CaB c) {k axis edge : Int} (hk : -100 ≤ k ∧ k ≤ 100) (ha : 0 ≤ axis ∧ axis ≤ 16) (he : -20 ≤ edge ∧ edge ≤ 20) :
    (-1600 ≤ (axis - edge) * c.s.far ∧ (axis - edge) * c.s.far ≤ 1600) ∧ (-5000 ≤ (k - axis) * (c.s.far - c.p.near) ∧ (k - axis) * (c.s.far - c.p.near) ≤ 5000) := by
  obtain ⟨s1, s2, s3, s4, s5, s6⟩ := h.st
  obtain ⟨p1, p2, p3⟩ := h.pc
  have m1 := mulb (a := axis - edge) (b := c.s.far) (A := 40) (B := 40) (by omega) (by omega) (by omega) (by omega)
  have m2 := mulb (a := k - axis) (b := c.s.far - c.p.near) (A := 125) (B := 40) (by omega) (by omega) (by omega) (by omega)
  omega
theorem blur_bd {c : Ca} (h : CaB c) : 0 ≤ c.s.flame * c.p.near ∧ c.s.flame * c.p.near ≤ 120 := by
  obtain ⟨s1, s2, s3, s4, s5, s6⟩ := h.st
  obtain ⟨p1, p2, p3⟩ := h.pc
  exact ⟨Int.mul_nonneg (by omega) (by omega), by have := mulb (a := c.s.flame) (b := c.p.near) (A := 3) (B := 40) (by omega) (by omega) (by omega) (by omega); omega⟩
theorem acr_bd {c : Ca} (h : CaB c) {k : Int} (hk : -90 ≤ k ∧ k ≤ 90) : U (c.acr k).1 ∧ U (c.acr k).2 := by
  obtain ⟨s1, s2, s3, s4, s5, s6⟩ := h.st
  obtain ⟨p1, p2, p3⟩ := h.pc
  have a1 := frm_bd h (k := k) (axis := c.s.x) (edge := c.p.x) (by omega) (by omega) (by omega)
  have a2 := frm_bd h (k := k + 1) (axis := c.s.x) (edge := c.p.x) (by omega) (by omega) (by omega)
  have b := blur_bd h
  unfold Ca.acr U Ca.frm Ca.blur
  simp only
  omega
theorem dwn_bd {c : Ca} (h : CaB c) {k : Int} (hk : -90 ≤ k ∧ k ≤ 90) : U (c.dwn k).1 ∧ U (c.dwn k).2 := by
  obtain ⟨s1, s2, s3, s4, s5, s6⟩ := h.st
  obtain ⟨p1, p2, p3⟩ := h.pc
  have a1 := frm_bd h (k := k) (axis := c.s.y) (edge := c.p.y) (by omega) (by omega) (by omega)
  have a2 := frm_bd h (k := k + 1) (axis := c.s.y) (edge := c.p.y) (by omega) (by omega) (by omega)
  have b := blur_bd h
  unfold Ca.dwn U Ca.frm Ca.blur
  simp only
  omega
theorem ediv_bd {a b : Int} (ha : U a) (hb : 2 ≤ b) : U (a / b) := by
  unfold U at ha ⊢
  have e := Int.mul_ediv_add_emod a b
  have e1 := Int.emod_nonneg a (show b ≠ 0 by omega)
  have e2 := Int.emod_lt_of_pos a (show 0 < b by omega)
  constructor
  · exact Int.le_ediv_of_mul_le (by omega) (by
      have := Int.mul_le_mul_of_nonneg_left (show (1 : Int) ≤ b by omega) (show (0 : Int) ≤ 20000 by omega)
      omega)
  · exact Int.le_trans (Int.ediv_le_ediv (by omega) ha.2) (Int.ediv_le_self _ (by omega))
theorem mts_bd {c : Ca} (h : CaB c) {e : Int × Int} (h1 : U e.1) (h2 : U e.2) : U (c.mts e).1 ∧ (-20001 ≤ (c.mts e).2 ∧ (c.mts e).2 ≤ 20000) := by
  obtain ⟨s1, s2, s3, s4, s5, s6⟩ := h.st
  have a1 := ediv_bd h1 (b := c.s.far) (by omega)
  have a2 := ediv_bd (a := -e.2) (b := c.s.far) (by unfold U at h2 ⊢; omega) (by omega)
  refine ⟨a1, ?_⟩
  unfold U at a2
  unfold Ca.mts
  simp only
  omega
theorem below_eq {a b : Int} (hb : 0 < b) : a / b = if a.tmod b < 0 then a.tdiv b - 1 else a.tdiv b := by
  have e1 := Int.mul_tdiv_add_tmod a b
  have e2 := Int.mul_ediv_add_emod a b
  have h1 := Int.emod_nonneg a (show b ≠ 0 by omega)
  have h2 := Int.emod_lt_of_pos a hb
  have hd : a / b = a.tdiv b - if 0 ≤ a ∨ b ∣ a then 0 else b.sign := Int.ediv_eq_tdiv
  have hm : a % b = a.tmod b + ((if 0 ≤ a ∨ b ∣ a then 0 else b.natAbs : Nat) : Int) := Int.emod_eq_tmod
  have hs : b.sign = 1 := Int.sign_eq_one_of_pos hb
  have ha : (b.natAbs : Int) = b := by omega
  rw [hs] at hd
  by_cases hc : 0 ≤ a ∨ b ∣ a
  · rw [if_pos hc] at hd hm
    rw [if_neg (by omega)]; omega
  · rw [if_neg hc] at hd hm
    rw [ha] at hm
    rw [if_pos (by omega)]; omega
theorem rng_nil {a b : Int} (h : b < a) : rng a b = [] := by
  unfold rng; rw [show (b - a + 1).toNat = 0 by omega]; rfl
theorem rng_snoc {a b : Int} (h : a ≤ b) : rng a b = rng a (b - 1) ++ [b] := by
  unfold rng
  rw [show (b - a + 1).toNat = (b - 1 - a + 1).toNat + 1 by omega, List.range_succ, List.map_append]
  simp; omega
namespace Ca
theorem rowAll_snoc {c : Ca} {m a k : Int} (h : a ≤ k) : c.rowAll m a k = (c.rowAll m a (k - 1) && c.hide m k) := by
  unfold rowAll; rw [rng_snoc h, List.all_append]; simp
theorem rowAny_snoc {c : Ca} {m a k : Int} (h : a ≤ k) : c.rowAny m a k = (c.rowAny m a (k - 1) || c.hide m k) := by
  unfold rowAny; rw [rng_snoc h, List.any_append]; simp
theorem rowAll_nil {c : Ca} {m a k : Int} (h : k < a) : c.rowAll m a k = true := by unfold rowAll; rw [rng_nil h]; rfl
theorem rowAny_nil {c : Ca} {m a k : Int} (h : k < a) : c.rowAny m a k = false := by unfold rowAny; rw [rng_nil h]; rfl
theorem boxAll_snoc {c : Ca} {x : Int × Int} {a m : Int} (h : a ≤ m) : c.boxAll x (a, m) = (c.boxAll x (a, m - 1) && c.rowAll m x.1 x.2) := by
  unfold boxAll; simp only; rw [rng_snoc h, List.all_append]; simp
theorem boxAny_snoc {c : Ca} {x : Int × Int} {a m : Int} (h : a ≤ m) : c.boxAny x (a, m) = (c.boxAny x (a, m - 1) || c.rowAny m x.1 x.2) := by
  unfold boxAny; simp only; rw [rng_snoc h, List.any_append]; simp
theorem boxAll_nil {c : Ca} {x : Int × Int} {a m : Int} (h : m < a) : c.boxAll x (a, m) = true := by unfold boxAll; simp only; rw [rng_nil h]; rfl
theorem boxAny_nil {c : Ca} {x : Int × Int} {a m : Int} (h : m < a) : c.boxAny x (a, m) = false := by unfold boxAny; simp only; rw [rng_nil h]; rfl
end Ca
theorem hide_out {c : Ca} {row col : Int} (h : (inn row 0 (c.f.length - 1) && inn col 0 ((w0 c.f : Int) - 1)) = false) : c.hide row col = false := by
  unfold Ca.hide; rw [h]; rfl
theorem hide_in {c : Ca} {i j : Nat} (h : CaB c) (hi : i < c.f.length) (hj : j < c.f[i].length) : c.hide (i : Int) (j : Int) = decide (c.f[i][j] = 35) := by
  have := h.row i hi
  unfold Ca.hide
  have e1 : inn (i : Int) 0 (c.f.length - 1) = true := by unfold inn; simp only [Bool.and_eq_true, decide_eq_true_eq]; omega
  have e2 : inn (j : Int) 0 ((w0 c.f : Int) - 1) = true := by unfold inn; simp only [Bool.and_eq_true, decide_eq_true_eq]; omega
  rw [e1, e2]
  simp [List.getElem?_eq_getElem hi, List.getElem?_eq_getElem hj]
end Ol
namespace Ol
open Ni (inn)
def er (b : Bool) : Int := if b = true then 0 else 2
namespace Ca
def atN (c : Ca) (n : Int) : Ca := ⟨c.s, c.f, ⟨n, c.p.x, c.p.y⟩⟩
def mostN (c : Ca) : Nat → Option Nat
  | 0 => none
  | n + 1 => if (c.atN n).fits = true then some n else c.mostN n
def most (c : Ca) : Option Nat := c.mostN c.s.far.toNat
def fadeB (c : Ca) (n : Nat) : Bool := decide (cnt 35 (c.atN n).shadow = 0)
def fades (c : Ca) : Option Nat := (List.range c.s.far.toNat).find? c.fadeB
end Ca
theorem CaB.atN {c : Ca} (h : CaB c) {n : Int} (h1 : 0 ≤ n) (h2 : n ≤ c.s.far - 1) : CaB (c.atN n) := ⟨h.st, ⟨⟨h1, h2⟩, h.pc.2⟩, h.fg, h.w, h.row, h.ok⟩
def opN (o : Option Nat) : Int := match o with | some n => n | none => 0
def opE (o : Option Nat) : Int := match o with | some _ => 0 | none => 5
theorem fades_some {c : Ca} {n : Nat} (hn : n < c.s.far.toNat) (h : c.fadeB n = true) (k : ∀ i, i < n → c.fadeB i = false) : c.fades = some n := by
  unfold Ca.fades
  rw [List.find?_range_eq_some]
  exact ⟨h, List.mem_range.2 hn, fun j hj => by rw [k j hj]; rfl⟩
theorem fades_none {c : Ca} (k : ∀ i, i < c.s.far.toNat → c.fadeB i = false) : c.fades = none := by
  unfold Ca.fades
  rw [List.find?_eq_none]
  intro i hi
  rw [k i (List.mem_range.1 hi)]; simp
abbrev Pr := UInt8 × UInt8
def dd (q : Pr) : Bool := decide (q.1 = 35) && decide (q.2 = 35)
def nl (q : Pr) : Bool := !decide (q.1 = 46) && !decide (q.2 = 46)
def meetsP (l : List Pr) : Int := if l.any dd = true then 3 else if l.any nl = true then 2 else 1
def mrow (c d : Ca) (m k : Nat) : List Pr := (List.range k).map fun (i : Nat) => (c.cell i m, d.cell i m)
def mall (c d : Ca) (m : Nat) : List Pr := (List.range m).flatMap fun i => mrow c d i c.s.wide.toNat
def meetsC (c d : Ca) : Int := meetsP (mall c d c.s.high.toNat)
theorem mrow_succ (c d : Ca) (m k : Nat) : mrow c d m (k + 1) = mrow c d m k ++ [(c.cell k m, d.cell k m)] := by unfold mrow; rw [List.range_succ]; simp
theorem mall_succ (c d : Ca) (m : Nat) : mall c d (m + 1) = mall c d m ++ mrow c d m c.s.wide.toNat := by unfold mall; rw [List.range_succ]; simp
def soft (l : List Pr) : Int := if l.any nl = true then 2 else 1
theorem meetsP_soft {l : List Pr} (h : l.any dd = false) : meetsP l = soft l := by unfold meetsP soft; rw [h]; rfl
theorem soft_snoc {l : List Pr} {q : Pr} : soft (l ++ [q]) = if nl q = true then 2 else soft l := by
  unfold soft; rw [List.any_append]
  cases h : nl q <;> simp only [List.any_cons, List.any_nil, h, Bool.or_false, Bool.or_true, if_true] <;> rfl
theorem any_snoc {l : List Pr} {q : Pr} (h : l.any dd = false) (k : dd q = false) : (l ++ [q]).any dd = false := by rw [List.any_append, h]; simp [k]
theorem meets_dd {c d : Ca} {m k : Nat} (hm : m < c.s.high.toNat) (hk : k < c.s.wide.toNat) (h : dd (c.cell k m, d.cell k m) = true) : meetsC c d = 3 := by
  have : (mall c d c.s.high.toNat).any dd = true := by
    rw [List.any_eq_true]
    refine ⟨_, List.mem_flatMap.2 ⟨m, List.mem_range.2 hm, List.mem_map.2 ⟨k, List.mem_range.2 hk, rfl⟩⟩, h⟩
  unfold meetsC meetsP; rw [if_pos this]
namespace Ca
def dA (c : Ca) : Nat → Int | 0 => c.s.x | _ + 1 => c.s.y
def dE (c : Ca) : Nat → Int | 0 => c.p.x | _ + 1 => c.p.y
def dL (c : Ca) : Nat → Int | 0 => (c.f[0]?.getD []).length | _ + 1 => c.f.length
def dW (c : Ca) : Nat → Int | 0 => c.s.wide | _ + 1 => c.s.high
def fitK (c : Ca) (k : Nat) : Bool := c.fitsD (c.dA k) (c.dE k) (c.dL k) (c.dW k)
end Ca
theorem fits_K (c : Ca) : c.fits = (c.fitK 0 && c.fitK 1) := by
  unfold Ca.fits Ca.fitK Ca.dA Ca.dE Ca.dL Ca.dW w0
  cases c.f <;> rfl
theorem dK_bd {c : Ca} (h : CaB c) (k : Nat) : (0 ≤ c.dA k ∧ c.dA k ≤ 16) ∧ (-20 ≤ c.dE k ∧ c.dE k ≤ 20) ∧ (1 ≤ c.dL k ∧ c.dL k ≤ 6) ∧ (1 ≤ c.dW k ∧ c.dW k ≤ 16) := by
  obtain ⟨s1, s2, s3, s4, s5, s6⟩ := h.st
  obtain ⟨p1, p2, p3⟩ := h.pc
  have f := h.fg
  have w := h.w
  have e : (c.f[0]?.getD []).length = w0 c.f := by unfold w0; cases c.f <;> rfl
  cases k <;> simp only [Ca.dA, Ca.dE, Ca.dL, Ca.dW, e] <;> omega
theorem fits_bad {c : Ca} {k : Nat} (hk : k < 2) (h : c.fitK k = false) : c.fits = false := by
  rw [fits_K]
  rcases (show k = 0 ∨ k = 1 by omega) with rfl | rfl <;> simp [h]
theorem fits_ok {c : Ca} (h : ∀ k, k < 2 → c.fitK k = true) : c.fits = true := by rw [fits_K, h 0 (by omega), h 1 (by omega)]; rfl
theorem fitK_lo {c : Ca} {k : Nat} (h : c.dA k * (c.s.far - c.p.near) + (c.dE k - c.dA k) * c.s.far < c.blur) : c.fitK k = false := by unfold Ca.fitK Ca.fitsD; simp [h]
theorem fitK_hi {c : Ca} {k : Nat} (h : c.dA k * (c.s.far - c.p.near) + (c.dE k + c.dL k - c.dA k) * c.s.far + c.blur > c.dW k * (c.s.far - c.p.near)) : c.fitK k = false := by unfold Ca.fitK Ca.fitsD; simp [h]
theorem fitK_ok {c : Ca} {k : Nat} (h : ¬ c.dA k * (c.s.far - c.p.near) + (c.dE k - c.dA k) * c.s.far < c.blur) (h2 : ¬ c.dA k * (c.s.far - c.p.near) + (c.dE k + c.dL k - c.dA k) * c.s.far + c.blur > c.dW k * (c.s.far - c.p.near)) : c.fitK k = true := by unfold Ca.fitK Ca.fitsD; simp [h, h2]
end Ol
namespace Ol
open Ni (inn)
def ixQ {α : Type} (q : α → Bool) (E : List α) : Int := match E.findIdx? q with | some i => i | none => -1
theorem ixQ_at {α : Type} {q : α → Bool} {E : List α} {k : Nat} (hk : k < E.length) (h : q E[k] = true) (ok : ∀ i, (hi : i < E.length) → i < k → q E[i] = false) : ixQ q E = k := by
  have : E.findIdx? q = some k := List.findIdx?_eq_some_iff_getElem.2 ⟨hk, h, fun j hj => by simp [ok j (by omega) hj]⟩
  unfold ixQ; rw [this]
theorem ixQ_no {α : Type} {q : α → Bool} {E : List α} (ok : ∀ i, (hi : i < E.length) → q E[i] = false) : ixQ q E = -1 := by
  have : E.findIdx? q = none := List.findIdx?_eq_none_iff.2 fun x hx => by
    obtain ⟨i, hi, rfl⟩ := List.getElem_of_mem hx; exact ok i hi
  unfold ixQ; rw [this]
theorem ixQ_any {α : Type} (q : α → Bool) (E : List α) : decide (ixQ q E ≥ 0) = E.any q := by
  unfold ixQ
  cases h : E.findIdx? q with
  | none =>
    have := List.findIdx?_eq_none_iff.1 h
    rw [List.any_eq_false.2 fun x hx => by simp [this x hx]]; rfl
  | some i =>
    obtain ⟨h1, h2, _⟩ := List.findIdx?_eq_some_iff_getElem.1 h
    rw [List.any_eq_true.2 ⟨_, List.getElem_mem h1, h2⟩]; exact decide_eq_true (show (i : Int) ≥ 0 by omega)
def sBad (c : UInt8) : Bool := decide (c ≠ 35 ∧ c ≠ 43 ∧ c ≠ 46 ∧ c ≠ 63)
theorem siRow_eq (w : Int) (r : List UInt8) : siRow w r = (decide ((r.length : Int) = w) && !(r.any sBad)) := rfl
theorem siOK_bad {s : Sg} {l : List (List UInt8)} {k : Nat} (hk : k < l.length) (h : siRow s.wide l[k] = false) : siOK s l = false := by
  unfold siOK
  have : l.all (siRow s.wide) = false := by rw [List.all_eq_false]; exact ⟨_, List.getElem_mem hk, by simp [h]⟩
  rw [this, Bool.and_false]
theorem siOK_end {s : Sg} {l : List (List UInt8)} (h0 : (l.length : Int) = s.high) (h : ∀ i, (hi : i < l.length) → siRow s.wide l[i] = true) : siOK s l = true := by
  unfold siOK
  have : l.all (siRow s.wide) = true := List.all_eq_true.2 fun x hx => by obtain ⟨i, hi, rfl⟩ := List.getElem_of_mem hx; exact h i hi
  rw [this, h0]; simp
structure Fit (a b : List (List UInt8)) : Prop where
  len : a.length ≤ b.length
  row : ∀ m, (h : m < a.length) → (h2 : m < b.length) → a[m].length ≤ b[m].length
  many : b.length ≤ 1000
  wide : ∀ m, (h : m < b.length) → b[m].length ≤ 1000
theorem agree_no {a b : List (List UInt8)} {m k : Nat} (h1 : m < a.length) (h2 : m < b.length) (h3 : k < a[m].length) (h4 : k < b[m].length) (h : opp a[m][k] b[m][k] = true) : agree a b = false := by
  unfold agree
  rw [List.all_eq_false]
  refine ⟨(a[m], b[m]), ?_, ?_⟩
  · rw [List.mem_iff_getElem]; exact ⟨m, by simp; omega, by simp⟩
  · simp only [Bool.not_eq_true]
    unfold agreeRow
    rw [List.all_eq_false]
    refine ⟨(a[m][k], b[m][k]), ?_, by simp [h]⟩
    rw [List.mem_iff_getElem]; exact ⟨k, by simp; omega, by simp⟩
def agRow (a b : List (List UInt8)) (m : Nat) : Prop := ∀ k, (h1 : m < a.length) → (h2 : m < b.length) → (h3 : k < a[m].length) → (h4 : k < b[m].length) → opp a[m][k] b[m][k] = false
theorem agree_yes {a b : List (List UInt8)} (h : ∀ m, agRow a b m) : agree a b = true := by
  unfold agree
  rw [List.all_eq_true]
  intro q hq
  obtain ⟨m, hm, rfl⟩ := List.getElem_of_mem hq
  rw [List.length_zip] at hm
  unfold agreeRow
  rw [List.all_eq_true]
  intro r hr
  obtain ⟨k, hk, rfl⟩ := List.getElem_of_mem hr
  simp only [List.getElem_zip] at hk ⊢
  rw [List.length_zip] at hk
  rw [h m k (by omega) (by omega) (by omega) (by omega)]; rfl
theorem coOK_eq (l : List Fg) : coOK l = (inn l.length 1 6 && !(l.any fun f => !fgOK f)) := rfl
theorem coOK_facts {l : List Fg} (h : coOK l = true) : (1 ≤ l.length ∧ l.length ≤ 6) ∧ ∀ i, (hi : i < l.length) → fgOK l[i] = true := by
  unfold coOK at h
  simp only [Bool.and_eq_true, inn, decide_eq_true_eq, Bool.not_eq_true', List.any_eq_false, Bool.not_eq_true, Bool.not_eq_false'] at h
  exact ⟨by omega, fun i hi => by have := h.2 _ (List.getElem_mem hi); simpa using this⟩
theorem rcOK_facts {s : Sg} {r : Rc} (h : rcOK s r = true) : (0 ≤ r.nl ∧ r.nl ≤ s.far - 1) ∧ (0 ≤ r.nh ∧ r.nh ≤ s.far - 1) ∧ (0 ≤ r.nh - r.nl ∧ r.nh - r.nl ≤ 5) ∧ (-20 ≤ r.xl ∧ r.xl ≤ 20) ∧ (-20 ≤ r.xh ∧ r.xh ≤ 20) ∧ (0 ≤ r.xh - r.xl ∧ r.xh - r.xl ≤ 5) ∧ (-20 ≤ r.y ∧ r.y ≤ 20) := by
  unfold rcOK at h
  simp only [Bool.and_eq_true, pcOK_iff, spOK, inn, decide_eq_true_eq] at h
  omega
end Ol
namespace Ol
open Ni (inn)
def nN (x : Sn) : Nat := (x.r.nh - x.r.nl + 1).toNat
def nX (x : Sn) : Nat := (x.r.xh - x.r.xl + 1).toNat
def pos (x : Sn) (i d e : Nat) : Nat := (i * nN x + d) * nX x + e
theorem flat_get {α β : Type} (f : α → List β) (n : Nat) {j : Nat} (hj : j < n) : ∀ (l : List α) (_ : ∀ a ∈ l, (f a).length = n) (i : Nat), (l.flatMap f)[i * n + j]? = (l[i]?).bind fun a => (f a)[j]?
  | [], _, i => by simp
  | a :: l, h, 0 => by
    rw [List.flatMap_cons, List.getElem?_append_left (by rw [h a (by simp)]; omega)]; simp
  | a :: l, h, i + 1 => by
    have e : (i + 1) * n + j = n + (i * n + j) := by rw [Nat.succ_mul]; omega
    rw [List.flatMap_cons, e, List.getElem?_append_right (by rw [h a (by simp)]; omega), h a (by simp), Nat.add_sub_cancel_left, flat_get f n hj l (fun b hb => h b (List.mem_cons_of_mem _ hb)) i]
    simp
theorem flat_len {α β : Type} (f : α → List β) (n : Nat) : ∀ (l : List α) (_ : ∀ a ∈ l, (f a).length = n), (l.flatMap f).length = l.length * n
  | [], _ => by simp
  | a :: l, h => by
    rw [List.flatMap_cons, List.length_append, h a (by simp), flat_len f n l (fun b hb => h b (List.mem_cons_of_mem _ hb)), List.length_cons, Nat.succ_mul]; omega
theorem rdX_len (x : Sn) (i : Nat) (n : Int) : (rdX x i n).length = nX x := by unfold rdX nX; rw [List.length_map, rng_len]
theorem rdN_len (x : Sn) (i : Nat) : (rdN x i).length = nN x * nX x := by
  unfold rdN; rw [flat_len _ (nX x) _ fun n _ => rdX_len x i n, rng_len]; rfl
theorem rdgs_len (x : Sn) : (rdgs x).length = pos x x.l.length 0 0 := by
  unfold rdgs pos; rw [flat_len _ (nN x * nX x) _ fun i _ => rdN_len x i, List.length_range, Nat.add_zero, Nat.add_zero, Nat.mul_assoc]
theorem rng_get {a b : Int} {d : Nat} (h : d < (b - a + 1).toNat) : (rng a b)[d]? = some (a + d) := by
  unfold rng; rw [List.getElem?_map, List.getElem?_range h]; rfl
theorem rdN_get {x : Sn} {i d e : Nat} (hd : d < nN x) (he : e < nX x) : (rdN x i)[d * nX x + e]? = some (thrown x i (x.r.nl + d) (x.r.xl + e)) := by
  unfold rdN
  rw [flat_get _ (nX x) he _ (fun n _ => rdX_len x i n), rng_get hd]
  simp only [Option.bind_some, rdX]
  rw [List.getElem?_map, rng_get he]; rfl
theorem rdgs_get {x : Sn} {i d e : Nat} (hi : i < x.l.length) (hd : d < nN x) (he : e < nX x) : (rdgs x)[pos x i d e]? = some (thrown x i (x.r.nl + d) (x.r.xl + e)) := by
  have hlt : d * nX x + e < nN x * nX x := by
    have : (d + 1) * nX x ≤ nN x * nX x := Nat.mul_le_mul_right _ hd
    rw [Nat.succ_mul] at this; omega
  have e1 : pos x i d e = i * (nN x * nX x) + (d * nX x + e) := by unfold pos; rw [Nat.add_mul, Nat.mul_assoc]; omega
  unfold rdgs
  rw [e1, flat_get _ (nN x * nX x) hlt _ (fun i _ => rdN_len x i), List.getElem?_range hi]
  exact rdN_get hd he
theorem pos_x {x : Sn} {i d : Nat} : pos x i d (nX x) = pos x i (d + 1) 0 := by
  unfold pos; rw [Nat.add_mul, Nat.add_mul, Nat.add_mul]; omega
theorem pos_n {x : Sn} {i : Nat} : pos x i (nN x) 0 = pos x (i + 1) 0 0 := by
  unfold pos; rw [Nat.succ_mul]; rfl
def ofF (i : Nat) (l : List Th) : List Th := l.filter fun t => t.rd.fig == i
theorem rdN_fig {x : Sn} {i : Nat} {t : Th} (h : t ∈ rdN x i) : t.rd.fig = i := by
  unfold rdN at h
  rw [List.mem_flatMap] at h
  obtain ⟨n, _, h⟩ := h
  unfold rdX at h
  obtain ⟨k, _, rfl⟩ := List.mem_map.1 h
  rfl
theorem ofF_flat (x : Sn) (i : Nat) : ∀ l : List Nat, l.Nodup → ofF i (l.flatMap (rdN x)) = if i ∈ l then rdN x i else []
  | [], _ => by simp [ofF]
  | a :: l, h => by
    have ih := ofF_flat x i l (List.nodup_cons.1 h).2
    have hna := (List.nodup_cons.1 h).1
    unfold ofF at ih ⊢
    rw [List.flatMap_cons, List.filter_append, ih]
    by_cases ha : a = i
    · subst ha
      rw [if_neg hna, if_pos (by simp), List.append_nil]
      exact List.filter_eq_self.2 fun t ht => by simp [rdN_fig ht]
    · have : (rdN x a).filter (fun t => t.rd.fig == i) = [] := List.filter_eq_nil_iff.2 fun t ht => by simp [rdN_fig ht, ha]
      rw [this, List.nil_append]
      by_cases hl : i ∈ l
      · rw [if_pos hl, if_pos (List.mem_cons_of_mem _ hl)]
      · rw [if_neg hl, if_neg (by simp [hl, Ne.symm ha])]
theorem ofF_rdgs {x : Sn} {i : Nat} (h : i < x.l.length) : ofF i (rdgs x) = rdN x i := by
  unfold rdgs; rw [ofF_flat x i _ List.nodup_range, if_pos (List.mem_range.2 h)]
theorem ofF_snoc (i : Nat) (l : List Th) (t : Th) : ofF i (l ++ [t]) = if t.rd.fig = i then ofF i l ++ [t] else ofF i l := by
  unfold ofF; rw [List.filter_append]
  by_cases h : t.rd.fig = i
  · rw [if_pos h, List.filter_cons_of_pos (by simp [h])]; rfl
  · rw [if_neg h, List.filter_cons_of_neg (by simp [h])]; simp
def byF (x : Sn) : List (List Th) := (List.range x.l.length).map (rdN x)
theorem rdgs_mem {x : Sn} {t : Th} (h : t ∈ rdgs x) : ∃ i n k, i < x.l.length ∧ (x.r.nl ≤ n ∧ n ≤ x.r.nh) ∧ (x.r.xl ≤ k ∧ k ≤ x.r.xh) ∧ t = thrown x i n k := by
  unfold rdgs rdN rdX at h
  simp only [List.mem_flatMap, List.mem_map, List.mem_range] at h
  obtain ⟨i, hi, n, hn, k, hk, rfl⟩ := h
  exact ⟨i, n, k, hi, mem_rng.1 hn, mem_rng.1 hk, rfl⟩
end Ol
namespace Ol
open Ni (inn)
def mist (t : Th) (l : List Th) : Bool := l.any fun u => agree t.sh u.sh
def mists (a b : List Th) : Bool := a.any fun t => mist t b
def pairI (L : List (List Th)) (i : Nat) : Option (Nat × Nat) := ((List.range L.length).find? fun k => decide (i < k) && mists (L.getD i []) (L.getD k [])).map fun k => (i, k)
def pairOf (L : List (List Th)) : Option (Nat × Nat) := (List.range L.length).findSome? (pairI L)
def misOf (x : Sn) : Option (Nat × Nat) := pairOf (byF x)
theorem getD_get {α : Type} {L : List α} {i : Nat} {d : α} (h : i < L.length) : L.getD i d = L[i] := by simp [List.getD, List.getElem?_eq_getElem h]
theorem pairI_some {L : List (List Th)} {i k : Nat} (hi : i < L.length) (hk : k < L.length) (h : i < k) (hm : mists L[i] L[k] = true) (no : ∀ j, (hj : j < L.length) → i < j → j < k → mists L[i] L[j] = false) : pairI L i = some (i, k) := by
  unfold pairI
  have : (List.range L.length).find? (fun k => decide (i < k) && mists (L.getD i []) (L.getD k [])) = some k := by
    rw [List.find?_range_eq_some]
    refine ⟨by rw [getD_get hi, getD_get hk, hm]; simp [h], List.mem_range.2 hk, fun j hj => ?_⟩
    have hjl : j < L.length := by omega
    rw [getD_get hi, getD_get hjl]
    by_cases hij : i < j
    · simp [no j hjl hij hj]
    · simp [hij]
  rw [this]; rfl
theorem pairI_none {L : List (List Th)} {i : Nat} (hi : i < L.length) (no : ∀ j, (hj : j < L.length) → i < j → mists L[i] L[j] = false) : pairI L i = none := by
  unfold pairI
  have : (List.range L.length).find? (fun k => decide (i < k) && mists (L.getD i []) (L.getD k [])) = none := by
    rw [List.find?_eq_none]
    intro j hj
    have hjl : j < L.length := List.mem_range.1 hj
    rw [getD_get hi, getD_get hjl]
    by_cases hij : i < j
    · simp [no j hjl hij]
    · simp [hij]
  rw [this]; rfl
theorem findSome_range {α : Type} {f : Nat → Option α} {n i : Nat} {a : α} (hi : i < n) (h : f i = some a) (no : ∀ j, j < i → f j = none) : (List.range n).findSome? f = some a := by
  have : List.range n = List.range i ++ (i :: (List.range (n - i - 1)).map (· + (i + 1))) := by
    apply List.ext_getElem
    · simp; omega
    · intro k h1 h2
      rw [List.getElem_range]
      rcases Nat.lt_trichotomy k i with h | h | h
      · rw [List.getElem_append_left (by simpa using h)]; simp
      · subst h; rw [List.getElem_append_right (by simp)]; simp
      · rw [List.getElem_append_right (by simp; omega)]
        rw [List.getElem_cons]
        simp only [List.length_range]
        rw [dif_neg (by omega)]; simp; omega
  rw [this, List.findSome?_append]
  have h1 : (List.range i).findSome? f = none := List.findSome?_eq_none_iff.2 fun j hj => no j (List.mem_range.1 hj)
  rw [h1, List.findSome?_cons, h]; rfl
theorem pair_some {L : List (List Th)} {i k : Nat} (hi : i < L.length) (hk : k < L.length) (h : i < k) (hm : mists L[i] L[k] = true) (no : ∀ j, (hj : j < L.length) → i < j → j < k → mists L[i] L[j] = false) (no' : ∀ a, a < i → pairI L a = none) : pairOf L = some (i, k) :=
  findSome_range hi (pairI_some hi hk h hm no) no'
theorem pair_none {L : List (List Th)} (no : ∀ a, a < L.length → pairI L a = none) : pairOf L = none := by
  unfold pairOf; exact List.findSome?_eq_none_iff.2 fun j hj => no j (List.mem_range.1 hj)
def missAt (L : List (List Th)) (fig : Nat) (near : Int) : Bool := (L.getD fig []).any fun t => (List.range L.length).any fun k => decide (t.rd.p.near = near) && (decide (k ≠ fig) && mist t (L.getD k []))
def toldK (L : List (List Th)) (fig : Nat) (lo : Int) (n : Nat) : List Int := ((List.range n).map fun (i : Nat) => lo + (i : Int)).filter fun near => !missAt L fig near
def toldOf (x : Sn) (fig : Nat) : List Int := toldK (byF x) fig x.r.nl (nN x)
theorem toldK_succ (L : List (List Th)) (fig : Nat) (lo : Int) (n : Nat) : toldK L fig lo (n + 1) = if missAt L fig (lo + n) = true then toldK L fig lo n else toldK L fig lo n ++ [lo + n] := by
  unfold toldK
  rw [List.range_succ, List.map_append, List.filter_append]
  cases h : missAt L fig (lo + n)
  · rw [if_neg (by simp), List.map_singleton, List.filter_cons_of_pos (by simp [h])]; rfl
  · rw [if_pos rfl, List.map_singleton, List.filter_cons_of_neg (by simp [h])]; simp
def upto (l : List Int) (i : Nat) : Bool := decide (i = 0) || decide (l.getD (i - 1) 0 < l.getD i 0)
def ceOK (s : Sg) (l : List Int) : Bool := ((List.range l.length).all fun i => inn (l.getD i 0) 0 (s.wide * s.high - 1) && upto l i) && decide ((l.length : Int) ≤ 8)
theorem ce_bad {s : Sg} {l : List Int} {i : Nat} (hi : i < l.length) (h : (inn (l.getD i 0) 0 (s.wide * s.high - 1) && upto l i) = false) : ceOK s l = false := by
  unfold ceOK
  have : ((List.range l.length).all fun i => inn (l.getD i 0) 0 (s.wide * s.high - 1) && upto l i) = false := by
    rw [List.all_eq_false]; exact ⟨i, List.mem_range.2 hi, by rw [h]; simp⟩
  rw [this]; rfl
theorem ce_end {s : Sg} {l : List Int} (h : ∀ i, i < l.length → (inn (l.getD i 0) 0 (s.wide * s.high - 1) && upto l i) = true) : ceOK s l = decide ((l.length : Int) ≤ 8) := by
  unfold ceOK
  have : ((List.range l.length).all fun i => inn (l.getD i 0) 0 (s.wide * s.high - 1) && upto l i) = true := by
    rw [List.all_eq_true]; exact fun i hi => h i (List.mem_range.1 hi)
  rw [this]; rfl
def chAt (wide : Int) (sh : List (List UInt8)) (n : Int) : UInt8 := (sh.getD (n / wide).toNat []).getD (n % wide).toNat 0
def tells (wide : Int) (a b : Th) (cells : List Int) : Bool := cells.any fun n => opp (chAt wide a.sh n) (chAt wide b.sh n)
def tellAB (wide : Int) (l m : List Th) (cells : List Int) : Bool := l.all fun a => m.all fun b => tells wide a b cells
def tellAll (wide : Int) (L : List (List Th)) (cells : List Int) : Bool := (List.range L.length).all fun i => (List.range i).all fun k => tellAB wide (L.getD i []) (L.getD k []) cells
def enough (x : Sn) (cells : List Int) : Bool := tellAll x.s.wide (byF x) cells
def plan (ok : List Int → Bool) : Nat → List Int → List Int → Option (List Int)
  | 0, _, now => if ok now = true then some now else none
  | _ + 1, [], _ => none
  | many + 1, c :: cs, now => match plan ok many cs (now ++ [c]) with
    | some l => some l
    | none => plan ok (many + 1) cs now
def planOf (x : Sn) (cells : List Int) : Option (List Int) := (List.range (cells.length + 1)).findSome? fun many => plan (enough x) many cells []
end Ol
namespace Ol
open Ni (inn)
def addF (l : List Int) (n : Int) : List Int := if n ∈ l then l else l ++ [n]
def seenF (l : List Th) : List Int := l.foldl (fun a t => addF a t.rd.fig) []
def wordOf (S : List Int) (i : Nat) : Int := if (i : Int) ∈ S then (if S.length = 1 then 3 else 2) else 1
def whoOf (x : Sn) (sight : List (List UInt8)) : List Int := (List.range x.l.length).map (wordOf (seenF (agrees x sight)))
def restOf (wide : Int) (L : List Th) (n : Int) (c : UInt8) : List Th := L.filter fun t => !opp (chAt wide t.sh n) c
def lenS (l : List Th) : Int := (seenF l).length
def mostAt (wide : Int) (L : List Th) (n : Int) : Int := max (max 0 (lenS (restOf wide L n 35))) (lenS (restOf wide L n 46))
def looks (wide : Int) (L : List Th) (sight : List (List UInt8)) (k : Nat) : List (Int × Int) := ((List.range k).filter fun (n : Nat) => decide (chAt wide sight n = 63)).map fun (n : Nat) => ((n : Int), mostAt wide L n)
theorem looks_succ (wide : Int) (L : List Th) (sight : List (List UInt8)) (k : Nat) : looks wide L sight (k + 1) = if chAt wide sight k = 63 then looks wide L sight k ++ [((k : Int), mostAt wide L k)] else looks wide L sight k := by
  unfold looks
  rw [List.range_succ, List.filter_append]
  by_cases h : chAt wide sight k = 63
  · rw [if_pos h, List.filter_cons_of_pos (by simp [h]), List.filter_nil, List.map_append]; rfl
  · rw [if_neg h, List.filter_cons_of_neg (by simp [h]), List.filter_nil, List.append_nil]
def better (a b : Int × Int) : Int × Int := if b.2 < a.2 then b else a
def bestOf (l : List (Int × Int)) : Int × Int := match l with | [] => (0, 0) | a :: l => l.foldl better a
def nextOf (x : Sn) (sight : List (List UInt8)) : List (Int × Int) := looks x.s.wide (agrees x sight) sight (x.s.wide * x.s.high).toNat
end Ol
namespace Ol
open Ni (inn)
section del
variable {α : Type} {q : α → Bool} {L : List α}
def dk (q : α → Bool) (L : List α) (j : Nat) : List α := (L.take j).filter fun t => !q t
theorem dk_yes {j : Nat} (hj : j < L.length) (h : q L[j] = false) : dk q L (j + 1) = dk q L j ++ [L[j]] := by
  unfold dk; rw [List.take_succ_eq_append_getElem hj, List.filter_append, List.filter_cons_of_pos (by simp [h])]; rfl
theorem dk_no {j : Nat} (hj : j < L.length) (h : q L[j] = true) : dk q L (j + 1) = dk q L j := by
  unfold dk; rw [List.take_succ_eq_append_getElem hj, List.filter_append, List.filter_cons_of_neg (by simp [h])]; simp
theorem dk_all : dk q L L.length = L.filter fun t => !q t := by unfold dk; rw [List.take_length]
theorem dk_none {j : Nat} (hj : j ≤ L.length) (h : ∀ i, (hi : i < L.length) → i < j → q L[i] = false) : dk q L j = L.take j := by
  unfold dk
  refine List.filter_eq_self.2 fun t ht => ?_
  obtain ⟨i, hi, rfl⟩ := List.getElem_of_mem ht
  rw [List.length_take] at hi
  rw [List.getElem_take, h i (by omega) (by omega)]; rfl
structure DelI (q : α → Bool) (L : List α) (j : Nat) (R : List α) : Prop where
  len : R.length = L.length
  le : j ≤ L.length
  tk : R.take (dk q L j).length = dk q L j
  dr : R.drop j = L.drop j
  lt : (dk q L j).length < j
theorem DelI.get {j : Nat} {R : List α} (h : DelI q L j R) (hj : j < L.length) (hr : j < R.length) : R[j] = L[j] := by
  have e := congrArg (·[0]?) h.dr
  simp only [List.getElem?_drop, Nat.add_zero] at e
  rw [List.getElem?_eq_getElem hj, List.getElem?_eq_getElem hr] at e
  exact Option.some.inj e
theorem DelI.start {i : Nat} (hi : i < L.length) (hq : q L[i] = true) (no : ∀ j, (hj : j < L.length) → j < i → q L[j] = false) : DelI q L (i + 1) L ∧ (dk q L (i + 1)).length = i := by
  have e : dk q L (i + 1) = L.take i := by rw [dk_no hi hq, dk_none (by omega) fun j hj h => no j hj h]
  have hl : (dk q L (i + 1)).length = i := by rw [e, List.length_take]; omega
  exact ⟨⟨rfl, hi, by rw [hl, e], rfl, by omega⟩, hl⟩
theorem DelI.skip {j : Nat} {R : List α} (h : DelI q L j R) (hj : j < L.length) (hq : q L[j] = true) : DelI q L (j + 1) R := by
  have e := dk_no hj hq
  refine ⟨h.len, hj, by rw [e]; exact h.tk, ?_, by rw [e]; have := h.lt; omega⟩
  rw [← List.drop_drop, ← List.drop_drop, h.dr]
theorem DelI.keep {j : Nat} {R : List α} (h : DelI q L j R) (hj : j < L.length) (hq : q L[j] = false) : DelI q L (j + 1) (R.set (dk q L j).length L[j]) ∧ (dk q L (j + 1)).length = (dk q L j).length + 1 := by
  have e := dk_yes hj hq
  have hlt := h.lt
  have hlen := h.len
  have hl : (dk q L (j + 1)).length = (dk q L j).length + 1 := by rw [e, List.length_append]; rfl
  refine ⟨⟨by rw [List.length_set]; exact h.len, hj, ?_, ?_, by omega⟩, hl⟩
  · rw [hl, List.take_succ_eq_append_getElem (by rw [List.length_set]; omega), List.take_set_of_le (Nat.le_refl _), h.tk, List.getElem_set_self, e]
  · rw [List.drop_set_of_lt (by omega), ← List.drop_drop, ← List.drop_drop, h.dr]
end del
theorem ixQ_yes {α : Type} {q : α → Bool} {E : List α} (h : ixQ q E ≠ -1) : ∃ i, ∃ hi : i < E.length, ixQ q E = i ∧ q E[i] = true ∧ ∀ j, (hj : j < E.length) → j < i → q E[j] = false := by
  unfold ixQ at h ⊢
  cases hf : E.findIdx? q with
  | none => rw [hf] at h; exact absurd rfl h
  | some i =>
    obtain ⟨h1, h2, h3⟩ := List.findIdx?_eq_some_iff_getElem.1 hf
    exact ⟨i, h1, rfl, h2, fun j hj hji => by simpa using h3 j hji⟩
theorem ixQ_none {α : Type} {q : α → Bool} {E : List α} (h : ixQ q E = -1) : (E.filter fun t => !q t) = E := by
  unfold ixQ at h
  cases hf : E.findIdx? q with
  | none =>
    have := List.findIdx?_eq_none_iff.1 hf
    exact List.filter_eq_self.2 fun t ht => by simp [this t ht]
  | some i => rw [hf] at h; simp only at h; omega
def bestK (l : List (Int × Int)) (k : Nat) : Int × Int := bestOf (l.take (k + 1))
theorem bestK_0 {l : List (Int × Int)} (h : 0 < l.length) : bestK l 0 = l[0] := by
  unfold bestK; cases l with
  | nil => simp at h
  | cons a l => rfl
theorem bestK_succ {l : List (Int × Int)} {k : Nat} (h : k + 1 < l.length) : bestK l (k + 1) = better (bestK l k) l[k + 1] := by
  unfold bestK
  cases l with
  | nil => simp at h
  | cons a l =>
    simp only [List.length_cons] at h
    rw [List.take_succ_cons, List.take_succ_cons, List.take_succ_eq_append_getElem (by omega)]
    unfold bestOf
    simp only [List.foldl_append, List.foldl_cons, List.foldl_nil, List.getElem_cons_succ]
theorem bestK_all {l : List (Int × Int)} (h : 0 < l.length) : bestK l (l.length - 1) = bestOf l := by
  unfold bestK; rw [show l.length - 1 + 1 = l.length by omega, List.take_length]
end Ol
namespace Ol
open Go Go.Ab Ni
def numO (w : List UInt8) : Option Int := if w.all isD = true ∧ w.length ≤ 2 ∧ w ≠ [] ∧ Lib.itoa (valN w) = w then some (valN w) else none
theorem numO_dig {w : List UInt8} {k : Nat} (h : k < w.length) (hd : isD w[k] = false) : numO w = none := by
  unfold numO; rw [if_neg]
  intro ⟨h1, _⟩
  have := List.all_eq_true.1 h1 _ (List.getElem_mem h)
  rw [hd] at this; cases this
theorem numO_len {w : List UInt8} (h : ¬ w.length ≤ 2) : numO w = none := by
  unfold numO; rw [if_neg]; intro ⟨_, h1, _⟩; exact h h1
theorem numO_nil : numO [] = none := by
  unfold numO; rw [if_neg]; intro ⟨_, _, h1, _⟩; exact h1 rfl
theorem numO_itoa {w : List UInt8} (h : ¬ Lib.itoa (valN w) = w) : numO w = none := by
  unfold numO; rw [if_neg]; intro ⟨_, _, _, h1⟩; exact h h1
theorem numO_some {w : List UInt8} (hd : ∀ i, (h : i < w.length) → isD w[i] = true) (hl : w.length ≤ 2) (hne : w ≠ []) (hi : Lib.itoa (valN w) = w) : numO w = some (valN w) := by
  unfold numO; rw [if_pos]
  refine ⟨List.all_eq_true.2 fun x hx => ?_, hl, hne, hi⟩
  obtain ⟨i, hi, rfl⟩ := List.getElem_of_mem hx
  exact hd i hi
theorem numO_val {w : List UInt8} {n : Int} (h : numO w = some n) : n = valN w := by
  unfold numO at h; split at h
  · exact (Option.some.inj h).symm
  · cases h
theorem numO_bd {w : List UInt8} {n : Int} (h : numO w = some n) : 0 ≤ n ∧ n ≤ 99 := by
  have hv := numO_val h
  subst hv
  unfold numO at h; split at h
  · rename_i hc
    obtain ⟨h1, h2, _⟩ := hc
    have hb := valN_bd (l := w) (k := w.length) (Nat.le_refl _) fun i hi _ => List.all_eq_true.1 h1 _ (List.getElem_mem hi)
    rw [List.take_length] at hb
    have : (10 ^ w.length : Nat) ≤ 10 ^ 2 := Nat.pow_le_pow_right (by omega) h2
    omega
  · cases h
def numsO : List (List UInt8) → Option (List Int)
  | [] => some []
  | w :: ws => match numO w, numsO ws with
    | some n, some l => some (n :: l)
    | _, _ => none
theorem numsO_bad : ∀ {ws : List (List UInt8)} {k : Nat} (hk : k < ws.length), numO ws[k] = none → numsO ws = none
  | w :: ws, 0, _, h => by unfold numsO; simp only [List.getElem_cons_zero] at h; rw [h]
  | w :: ws, k + 1, hk, h => by
    have := numsO_bad (ws := ws) (k := k) (by simpa using hk) (by simpa using h)
    unfold numsO; rw [this]; cases numO w <;> rfl
theorem numsO_ok : ∀ {ws : List (List UInt8)}, (∀ i, (h : i < ws.length) → numO ws[i] = some (valN ws[i])) → numsO ws = some (ws.map valN)
  | [], _ => rfl
  | w :: ws, h => by
    have h0 := h 0 (by simp)
    simp only [List.getElem_cons_zero] at h0
    have ih := numsO_ok (ws := ws) fun i hi => by have := h (i + 1) (by simpa using hi); simpa using this
    unfold numsO; rw [h0, ih]; rfl
def rowO (r : List UInt8) : Option (List (List UInt8)) := if 0 < ((cut 32 r).drop 1).length ∧ [] ∉ (cut 32 r).drop 1 then some ((cut 32 r).drop 1) else none
def rowsO : List (List UInt8) → Option (List (List (List UInt8)))
  | [] => some []
  | r :: rs => match rowO r, rowsO rs with
    | some f, some l => some (f :: l)
    | _, _ => none
theorem rowsO_bad : ∀ {rs : List (List UInt8)} {k : Nat} (hk : k < rs.length), rowO rs[k] = none → rowsO rs = none
  | r :: rs, 0, _, h => by unfold rowsO; simp only [List.getElem_cons_zero] at h; rw [h]
  | r :: rs, k + 1, hk, h => by
    have := rowsO_bad (rs := rs) (k := k) (by simpa using hk) (by simpa using h)
    unfold rowsO; rw [this]; cases rowO r <;> rfl
theorem rowsO_ok : ∀ {rs : List (List UInt8)} {q : List (List (List UInt8))}, q.length = rs.length → (∀ i, (h : i < q.length) → (h2 : i < rs.length) → rowO rs[i] = some q[i]) → rowsO rs = some q
  | [], [], _, _ => rfl
  | [], _ :: _, h, _ => by simp at h
  | _ :: _, [], h, _ => by simp at h
  | r :: rs, x :: q, hl, h => by
    have h0 := h 0 (by simp) (by simp)
    simp only [List.getElem_cons_zero] at h0
    have ih := rowsO_ok (rs := rs) (q := q) (by simpa using hl) fun i hi h2 => by have := h (i + 1) (by simpa using hi) (by simpa using h2); simpa using this
    unfold rowsO; rw [h0, ih]
theorem rowsO_q {rs : List (List UInt8)} {q : List (List (List UInt8))} {x : List (List UInt8)} {r : List UInt8} (hok : ∀ i, (h : i < q.length) → (h2 : i < rs.length) → rowO rs[i] = some q[i]) {hk : q.length < rs.length} (hr : rs[q.length] = r) (hx : rowO r = some x) :
    ∀ i, (h : i < (q ++ [x]).length) → (h2 : i < rs.length) → rowO rs[i] = some (q ++ [x])[i] := by
  intro i h h2
  by_cases e : i < q.length
  · rw [List.getElem_append_left e]; exact hok i e h2
  · have : i = q.length := by simp at h; omega
    subst this
    rw [hr, hx]; simp
def sumL (l : List (List UInt8)) : Nat := (l.map fun x => x.length + 1).sum
theorem join_len : ∀ (x : List UInt8) (l : List (List UInt8)) (c : UInt8), (Lib.join (x :: l) [c]).length = x.length + sumL l
  | x, [], c => by simp [Lib.join, sumL, List.intercalate]
  | x, y :: l, c => by
    have ih := join_len y l c
    unfold Lib.join List.intercalate at ih ⊢
    rw [List.intersperse_cons_cons]
    simp only [List.flatten_cons, List.length_append, List.length_singleton] at ih ⊢
    simp only [sumL, List.map_cons, List.sum_cons] at ih ⊢
    omega
theorem cut_sum (c : UInt8) : ∀ (s w : List UInt8) (l : List (List UInt8)), cut c s = w :: l → s.length = w.length + sumL l
  | [], w, l, h => by simp [cut] at h; obtain ⟨rfl, rfl⟩ := h; rfl
  | b :: s, w, l, h => by
    rw [cut] at h
    split at h
    · simp only [List.cons.injEq] at h
      obtain ⟨rfl, rfl⟩ := h
      cases hc : cut c s with
      | nil => have := (cut_len c s).2; rw [hc] at this; simp at this
      | cons x xs =>
        have ih := cut_sum c s x xs hc
        simp only [sumL, List.map_cons, List.sum_cons, List.length_cons, List.length_nil] at ih ⊢
        omega
    · cases hc : cut c s with
      | nil => have := (cut_len c s).2; rw [hc] at this; simp at this
      | cons x xs =>
        rw [hc] at h
        simp only [List.cons.injEq] at h
        obtain ⟨rfl, rfl⟩ := h
        have ih := cut_sum c s x xs hc
        simp only [List.length_cons]; omega
end Ol
