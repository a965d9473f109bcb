/-
  A part of the proof: conditions: none beyond each theorem's own.
-/
import Derived.Test.YtmbknoaneglilaaGreatDoorLogicD
import Derived.Test.YtmbknoaneglilaaGreatDoorSpecA
import Derived.KernelRfl
import Derived.Lib.LaidTab
import Derived.Lib.ItoaNum
import Derived.Test.YtmbknoaneglilaaGreatDoorProg
import Derived.Test.YtmbknoaneglilaaGreatDoorLogicE
import Derived.Test.YtmbknoaneglilaaGreatDoorShelf
set_option linter.all false
set_option maxRecDepth 100000
set_option maxHeartbeats 8000000
namespace Go.Proofs.YtmbknoaneglilaaGreatDoor
open Go Go.Ab Ni Ol
theorem lr [Tabs] (a : AV) : Less a a := Less.rfl' a
theorem J [Tabs] {a : AV} : Less a a := Less.rfl' a
theorem qq : (∀ (p : Prop) [Decidable p], (decide p = true) = p) ∧ (∀ (p : Prop) [Decidable p], decide p = false ↔ ¬p) ∧ (∀ b : Bool, ((!b) = true) = (b = false)) ∧ (∀ b : Bool, ((!b) = false) = (b = true)) ∧ (∀ a b : Bool, ((a && b) = true) = (a = true ∧ b = true)) ∧ (∀ a b : Bool, ((a || b) = true) = (a = true ∨ b = true)) ∧ (∀ a b : Bool, (a && b) = false ↔ a = false ∨ b = false) ∧ (∀ a b : Bool, (a || b) = false ↔ a = false ∧ b = false) ∧ (!true) = false ∧ (!false) = true ∧ (∀ {α β : Type} (f : α → β) (l : List α), (l.map f).length = l.length) ∧ (∀ {α : Type} (a b : α), (a ≠ b) = ¬(a = b)) ∧ (∀ (p : Prop) [Decidable p], ¬¬p ↔ p) :=
  ⟨fun p _ => decide_eq_true_eq, fun p _ => decide_eq_false_iff_not, fun b => Bool.not_eq_true' b, fun b => Bool.not_eq_false' b, fun a b => Bool.and_eq_true a b, fun a b => Bool.or_eq_true a b, fun _ _ => Bool.and_eq_false_iff, fun _ _ => Bool.or_eq_false_iff, rfl, rfl, fun f l => List.length_map f, fun _ _ => rfl, fun p _ => Decidable.not_not⟩
theorem mvr [Tabs] {c : Ctx} {ops : Array Oper} {Q : AExit → St → Prop} {i : Nat} {rest : List Oper} {s : St} {d : Option Tmp} {x : Operand} {t : TypeId} {p : String} {af : Array Edge} {v : Value} (h : Less (s.op x) (.raw v)) (hd : dOK c.nt d = true) (k : SeqWP c ops Q (i + 1) rest (s.put d (.raw v))) : SeqWP c ops Q i (⟨d, .move x, t, p, af, none⟩ :: rest) s := sq_ev hd (ev_mv h) k
theorem asr [Tabs] {c : Ctx} {ops : Array Oper} {Q : AExit → St → Prop} {i : Nat} {rest : List Oper} {s : St} {d : Option Tmp} {x : Operand} {t : TypeId} {p : String} {af : Array Edge} {v : Value} (h : Less (s.op x) (.raw v)) (hd : dOK c.nt d = true) (k : SeqWP c ops Q (i + 1) rest (s.put d (.raw v))) : SeqWP c ops Q i (⟨d, .assign x, t, p, af, none⟩ :: rest) s := sq_ev hd (ev_as h) k
theorem nn1 {α β : Type} {f : α → β} {a : α} {l : List α} : (a :: l).map f = f a :: l.map f := rfl
theorem nn2 {α β : Type} {f : α → β} : ([] : List α).map f = [] := rfl
theorem nn3 {α : Type} {a : α} {l m : List α} : (a :: l) ++ m = a :: (l ++ m) := rfl
theorem nn4 {α : Type} (l : List α) : [] ++ l = l := rfl
theorem nn5 {α : Type} {a : α} {l : List α} : (a :: l).length = l.length + 1 := rfl
theorem nn6 {α : Type} : ([] : List α).length = 0 := rfl
theorem nn7 {α : Type} (a b : α) : cond true a b = a := rfl
theorem nn8 {α : Type} (a b : α) : cond false a b = b := rfl
section
variable [Tabs] {c : Ctx} {ops : Array Oper} {Q : AExit → St → Prop} {i : Nat} {rest : List Oper} {s : St} {d : Option Tmp} {x y z : Operand} {t : TypeId} {p : String} {af : Array Edge} {v : Value} {j u n : Nat} {want : Bool} {l : List (List AV)}
theorem pf (hd : dOK c.nt d = true) (hx : Less (s.op x) (.raw (.bool false))) (h : Less (s.op z) (.raw v)) (k : SeqWP c ops Q (i + 1) rest (s.put d (.raw v))) : SeqWP c ops Q i (⟨d, .pick x y z, t, p, af, none⟩ :: rest) s := sq_ev hd (ev_pickF hx h) k
theorem ysl (hj : gslot ops j = some u) (ht : Nat.blt u c.nt = true) (hb : Less (sget s.sl u) (.raw (.bool want))) (hd : dOK c.nt d = true) (h : Less (s.op x) (.sl n l)) (k : SeqWP c ops Q (i + 1) rest (s.put d (.sl n l))) : SeqWP c ops Q i (⟨d, .move x, t, p, af, some (j, want)⟩ :: rest) s := sq_yes hj ht hb hd (ev_mv h) k
theorem xtr {m : List AV} {w : AV} (hd : dOK c.nt d = true) (hx : Less (s.op x) (.tup m)) (hv : m[n]? = some w) (k : SeqWP c ops Q (i + 1) rest (s.put d w)) : SeqWP c ops Q i (⟨d, .extract x n, t, p, af, none⟩ :: rest) s := sq_ev hd (ev_extract hx hv) k
theorem mvs (hd : dOK c.nt d = true) (h : Less (s.op x) (.sl n l)) (k : SeqWP c ops Q (i + 1) rest (s.put d (.sl n l))) : SeqWP c ops Q i (⟨d, .move x, t, p, af, none⟩ :: rest) s := sq_ev hd (ev_mv h) k
theorem ass (hd : dOK c.nt d = true) (h : Less (s.op x) (.sl n l)) (k : SeqWP c ops Q (i + 1) rest (s.put d (.sl n l))) : SeqWP c ops Q i (⟨d, .assign x, t, p, af, none⟩ :: rest) s := sq_ev hd (ev_as h) k
theorem ymr (hj : gslot ops j = some u) (ht : Nat.blt u c.nt = true) (hb : Less (sget s.sl u) (.raw (.bool want))) (hd : dOK c.nt d = true) (h : Less (s.op x) (.raw v)) (k : SeqWP c ops Q (i + 1) rest (s.put d (.raw v))) : SeqWP c ops Q i (⟨d, .move x, t, p, af, some (j, want)⟩ :: rest) s := sq_yes hj ht hb hd (ev_mv h) k
end
instance tabs : Tabs where
  blk b := Tryz.prog.globalNamed "internal/bytealg.MaxLen" = some b ∨ Tryz.prog.globalNamed "internal/strconv.uint64pow10" = some b
  is w := (∃ b m, Tryz.prog.globalNamed "internal/bytealg.MaxLen" = some b ∧ w.cell? ⟨b, 0, none⟩ = some (.int .i64 m)) ∧ Lib.TabIs Tryz.prog w "internal/strconv.uint64pow10" .u64 Lib.pow10Tab
  mono h k := ⟨by obtain ⟨b, m, hb, hm⟩ := k.1; exact ⟨b, m, hb, by have e := h b (.inl hb); unfold World.cell? at hm ⊢; simp only [e]; exact hm⟩, by
    have k2 := k.2
    unfold Lib.TabIs World.var? at k2 ⊢
    cases hg : Tryz.prog.globalNamed "internal/strconv.uint64pow10" with
    | none => rw [hg] at k2; exact k2
    | some g => rw [hg] at k2; simp only [Option.bind_some] at k2 ⊢; rw [h g (.inr hg)]; exact k2⟩
abbrev I (n : Int) : AV := .raw (.int .i64 n)
abbrev B (b : Bool) : AV := .raw (.bool b)
abbrev C (c : UInt8) : AV := .raw (.int .u8 c.toNat)
abbrev ints (l : List Int) : AV := .sl 1 (l.map fun x => [I x])
abbrev strs (l : List (List UInt8)) : AV := .sl 1 (l.map fun x => [S x])
abbrev stC (s : Sg) : List AV := [I s.wide, I s.high, I s.far, I s.flame, I s.x, I s.y]
abbrev stA (s : Sg) : AV := .agg (stC s)
abbrev fgA (f : Fg) : AV := .agg [strs f]
abbrev pcC (p : Pc) : List AV := [I p.near, I p.x, I p.y]
abbrev pcA (p : Pc) : AV := .agg (pcC p)
abbrev caC (c : Ca) : List AV := [I c.s.wide, I c.s.high, I c.s.far, I c.s.flame, I c.s.x, I c.s.y, strs c.f, I c.p.near, I c.p.x, I c.p.y]
abbrev caA (c : Ca) : AV := .agg (caC c)
abbrev figs (l : List Fg) : AV := .sl 1 (l.map fun f => [strs f])
abbrev rcC (r : Rc) : List AV := [I r.nl, I r.nh, I r.xl, I r.xh, I r.y]
abbrev rcA (r : Rc) : AV := .agg (rcC r)
abbrev snC (x : Sn) : List AV := [I x.s.wide, I x.s.high, I x.s.far, I x.s.flame, I x.s.x, I x.s.y, figs x.l, I x.r.nl, I x.r.nh, I x.r.xl, I x.r.xh, I x.r.y]
abbrev snA (x : Sn) : AV := .agg (snC x)
abbrev thC (t : Th) : List AV := [I t.rd.fig, I t.rd.p.near, I t.rd.p.x, I t.rd.p.y, strs t.sh]
theorem wr {n : Int} (h1 : -9223372036854775808 ≤ n) (h2 : n ≤ 9223372036854775807) : IntKind.i64.wrap n = n := IntWalk.i64_in _ ⟨h1, h2⟩
theorem decode_cases {w : List UInt8} {k : Nat} (h : k < w.length) : ((w[k]).toNat < 128 ∧ Utf8.decode ⟨w.toArray⟩ k = ((w[k]).toNat, 1)) ∨ (128 ≤ (w[k]).toNat ∧ 128 ≤ (Utf8.decode ⟨w.toArray⟩ k).1) := by
  have hk : k < (⟨w.toArray⟩ : ByteArray).size := by simp [ByteArray.size]; exact h
  have e : (⟨w.toArray⟩ : ByteArray)[k] = w[k] := rfl
  rcases Nat.lt_or_ge (w[k]).toNat 128 with ha | ha
  · exact .inl ⟨ha, by rw [decode_ascii _ _ hk (by rw [e]; exact ha), e]⟩
  · exact .inr ⟨ha, (decode_high _ _ hk (by rw [e]; exact ha)).1⟩
theorem ch_dec {w : List UInt8} {k : Nat} (h : k < w.length) (hc : (Utf8.decode ⟨w.toArray⟩ k).1 = 35 ∨ (Utf8.decode ⟨w.toArray⟩ k).1 = 46) : Utf8.decode ⟨w.toArray⟩ k = ((w[k]).toNat, 1) ∧ chOK w[k] = true := by
  rcases decode_cases h with ⟨_, e⟩ | ⟨_, e⟩
  · refine ⟨e, ?_⟩
    rw [e] at hc
    simp only at hc
    unfold chOK
    simp only [decide_eq_true_eq]
    exact hc.imp (fun h => UInt8.toNat_inj.1 h) (fun h => UInt8.toNat_inj.1 h)
  · omega
theorem dec35 {c : UInt8} : decide (((c.toNat : Nat) : Int) = 35) = decide (c = 35) := by
  refine decide_eq_decide.2 ⟨fun h => UInt8.toNat_inj.1 (by show c.toNat = 35; omega), fun h => by rw [h]; rfl⟩
theorem ch_bad {w : List UInt8} {k : Nat} (h : k < w.length) (hc : ¬ ((Utf8.decode ⟨w.toArray⟩ k).1 = 35 ∨ (Utf8.decode ⟨w.toArray⟩ k).1 = 46)) : chOK w[k] = false := by
  rw [Bool.eq_false_iff]
  intro ho
  unfold chOK at ho
  simp only [decide_eq_true_eq] at ho
  apply hc
  have hlt : (w[k]).toNat < 128 := by rcases ho with h | h <;> (rw [h]; decide)
  rcases decode_cases h with ⟨_, e⟩ | ⟨e1, _⟩
  · rw [e]; exact ho.imp (fun h => by rw [h]; rfl) (fun h => by rw [h]; rfl)
  · omega
instance en117 : EnT Tryz.prog 117 := ⟨Ent.of Tryz.func117 (by kernel_rfl) rfl⟩
instance en171 : EnT Tryz.prog 171 := ⟨Ent.of Tryz.func171 (by kernel_rfl) rfl⟩
instance en31 : EnT Tryz.prog 31 := ⟨Ent.of Tryz.func31 (by kernel_rfl) rfl⟩
instance en89 : EnT Tryz.prog 89 := ⟨Ent.of Tryz.func89 (by kernel_rfl) rfl⟩
instance fo23_0 : FoF Tryz.prog 23 0 0 3 := ⟨by kernel_rfl⟩
instance fo23_1 : FoF Tryz.prog 23 1 1 3 := ⟨by kernel_rfl⟩
instance fo23_2 : FoF Tryz.prog 23 2 2 3 := ⟨by kernel_rfl⟩
instance fo23_3 : FoF Tryz.prog 23 3 3 3 := ⟨by kernel_rfl⟩
instance fo23_4 : FoF Tryz.prog 23 4 4 3 := ⟨by kernel_rfl⟩
instance fo23_5 : FoF Tryz.prog 23 5 5 3 := ⟨by kernel_rfl⟩
instance fo26_0 : FoF Tryz.prog 26 0 0 24 := ⟨by kernel_rfl⟩
instance fo28_0 : FoF Tryz.prog 28 0 0 3 := ⟨by kernel_rfl⟩
instance fo28_1 : FoF Tryz.prog 28 1 1 3 := ⟨by kernel_rfl⟩
instance fo28_2 : FoF Tryz.prog 28 2 2 3 := ⟨by kernel_rfl⟩
instance sl24 : SlE Tryz.prog 24 9 1 := ⟨by kernel_rfl⟩
instance ty24 : TyF Tryz.prog 24 false 1 := ⟨by kernel_rfl⟩
instance ty3 : TyF Tryz.prog 3 false 1 := ⟨by kernel_rfl⟩
instance ty9 : TyF Tryz.prog 9 false 1 := ⟨by kernel_rfl⟩
instance ud9 : UnD Tryz.prog 9 .string := ⟨Tryz.underlying9⟩
theorem in_pure (n lo hi : Int) : APure Tryz.prog 117 [I n, I lo, I hi] (B (inn n lo hi)) := by
 refine apure_of (rs := [.tmp 6]) Tryz.func117 rfl rfl (Nat.le_of_ble_eq_true rfl) (by simp [AV.pureL, AV.pureB, AV.pureE, pureE_map]) (by first | rfl | (simp [AV.pureL, AV.pureB, AV.pureE, pureE_map])) fun e0 he0 => ?_
 refine W 5 ?_
 refine sq_split 10 J (fun g1 => ?_) (fun g1 => ?_)
 ·
  have g1' := g1
  try simp only [qq] at g1'
  refine W 5 ?_
  exact retQ_pure (v := .raw _) rfl rfl (Less.eq (by simp [inn, *]))
 have g1' := g1
 try simp only [qq] at g1'
 refine W 5 ?_
 exact retQ_pure (v := .raw _) rfl rfl (Less.eq (by simp [inn, *]))
theorem isstage_pure (s : Sg) : APure Tryz.prog 137 [stA s] (B (stOK s)) := by
 refine apure_of (rs := [.tmp 2]) Tryz.func137 rfl rfl (Nat.le_of_ble_eq_true rfl) (by simp [AV.pureL, AV.pureB, AV.pureE, pureE_map]) (by first | rfl | (simp [AV.pureL, AV.pureB, AV.pureE, pureE_map])) fun e0 he0 => ?_
 refine W 4 ?_
 refine cl A (in_pure _ _ _) ?_
 refine W 1 ?_
 refine sq_split 6 J (fun g1 => ?_) (fun g1 => ?_)
 ·
  have g1' := g1
  try simp only [qq] at g1'
  refine W 2 ?_
  refine cy A (in_pure _ _ _) ?_
  refine W 2 ?_
  refine sq_split 11 J (fun g2 => ?_) (fun g2 => ?_)
  ·
   have g2' := g2
   try simp only [qq] at g2'
   refine W 2 ?_
   refine cy A (in_pure _ _ _) ?_
   refine W 2 ?_
   refine sq_split 16 J (fun g3 => ?_) (fun g3 => ?_)
   ·
    have g3' := g3
    try simp only [qq] at g3'
    refine W 2 ?_
    refine cy A (in_pure _ _ _) ?_
    refine W 2 ?_
    refine sq_split 21 J (fun g4 => ?_) (fun g4 => ?_)
    ·
     have g4' := g4
     try simp only [qq] at g4'
     refine W 4 ?_
     refine cy A (in_pure _ _ _) ?_
     refine W 2 ?_
     refine sq_split 28 J (fun g5 => ?_) (fun g5 => ?_)
     ·
      have g5' := g5
      try simp only [qq] at g5'
      refine W 4 ?_
      refine cy A (in_pure _ _ _) ?_
      refine W 2 ?_
      exact retQ_pure (v := .raw _) rfl rfl (Less.eq (by simp [stOK, *]))
     have g5' := g5
     try simp only [qq] at g5'
     refine W 7 ?_
     exact retQ_pure (v := .raw _) rfl rfl (Less.eq (by simp [stOK, *]))
    have g4' := g4
    try simp only [qq] at g4'
    refine W 14 ?_
    exact retQ_pure (v := .raw _) rfl rfl (Less.eq (by simp [stOK, *]))
   have g3' := g3
   try simp only [qq] at g3'
   refine W 19 ?_
   exact retQ_pure (v := .raw _) rfl rfl (Less.eq (by simp [stOK, *]))
  have g2' := g2
  try simp only [qq] at g2'
  refine W 24 ?_
  exact retQ_pure (v := .raw _) rfl rfl (Less.eq (by simp [stOK, *]))
 have g1' := g1
 try simp only [qq] at g1'
 refine W 29 ?_
 exact retQ_pure (v := .raw _) rfl rfl (Less.eq (by simp [stOK, *]))
theorem isaway_pure (n : Int) : APure Tryz.prog 171 [I n] (B (awayOK n)) := by
 refine apure_of (rs := [.tmp 2]) Tryz.func171 rfl rfl (Nat.le_of_ble_eq_true rfl) (by simp [AV.pureL, AV.pureB, AV.pureE, pureE_map]) (by first | rfl | (simp [AV.pureL, AV.pureB, AV.pureE, pureE_map])) fun e0 he0 => ?_
 refine W 2 ?_
 refine cl A (in_pure _ _ _) ?_
 refine W 1 ?_
 exact retQ_pure (v := .raw _) rfl rfl J
theorem isplace_pure (s : Sg) (p : Pc) (h : 2 ≤ s.far ∧ s.far ≤ 40) : APure Tryz.prog 146 [stA s, pcA p] (B (pcOK s p)) := by
 refine apure_of (rs := [.tmp 4]) Tryz.func146 rfl rfl (Nat.le_of_ble_eq_true rfl) (by simp [AV.pureL, AV.pureB, AV.pureE, pureE_map]) (by first | rfl | (simp [AV.pureL, AV.pureB, AV.pureE, pureE_map])) fun e0 he0 => ?_
 refine W 8 ?_
 refine cl A (in_pure _ _ _) ?_
 refine W 1 ?_
 refine sq_split 11 J (fun g1 => ?_) (fun g1 => ?_)
 ·
  have g1' := g1
  try simp only [qq] at g1'
  refine W 2 ?_
  refine cy A (isaway_pure _) ?_
  refine W 2 ?_
  refine sq_split 16 J (fun g2 => ?_) (fun g2 => ?_)
  ·
   have g2' := g2
   try simp only [qq] at g2'
   refine W 2 ?_
   refine cy A (isaway_pure _) ?_
   refine W 2 ?_
   exact retQ_pure (v := .raw _) rfl rfl (Less.eq (by simp [pcOK, *]))
  have g2' := g2
  try simp only [qq] at g2'
  refine W 5 ?_
  exact retQ_pure (v := .raw _) rfl rfl (Less.eq (by simp [pcOK, *]))
 have g1' := g1
 try simp only [qq] at g1'
 refine W 10 ?_
 exact retQ_pure (v := .raw _) rfl rfl (Less.eq (by simp [pcOK, *]))
theorem isfigure_pure (f : Fg) : APure Tryz.prog 138 [fgA f] (B (fgOK f)) := by
 refine apure_of (rs := [.tmp 2]) Tryz.func138 rfl rfl (Nat.le_of_ble_eq_true rfl) (by simp [AV.pureL, AV.pureB, AV.pureE, pureE_map]) (by first | rfl | (simp [AV.pureL, AV.pureB, AV.pureE, pureE_map])) fun e0 he0 => ?_
 refine W 5 ?_
 refine cl A (in_pure _ _ _) ?_
 refine W 2 ?_
 refine sq_split 13 J (fun g1_5 => ?_) (fun g1_5 => ?_)
 ·
  have g1_5' := g1_5
  try simp only [qq] at g1_5'
  refine W 10 ?_
  exact retQ_pure (v := .raw _) rfl rfl (Less.eq (by unfold fgOK; simp_all))
 have g1_5' := g1_5
 try simp only [qq] at g1_5'
 have h1 : inn f.length 1 6 = true := by simpa using g1_5
 have hlen : 1 ≤ f.length ∧ f.length ≤ 6 := by simp only [inn, Bool.and_eq_true, decide_eq_true_eq] at h1; omega
 have hw0 := w0_eq (f := f) (by omega)
 refine W 2 ?_
 refine sq_yes rfl rfl (less_b g1_5) rfl (ev_index_map (k := 0) sl24.h J J rfl (by omega)) ?_
 refine W 2 ?_
 refine cy A (in_pure _ _ _) ?_
 refine W 2 ?_
 refine aw_cond J (fun c_21 => ?_) (fun c_21 => ?_)
 ·
  have c_21' := c_21
  try simp only [qq] at c_21'
  refine W 1 ?_
  exact retQ_pure (v := .raw _) rfl rfl (Less.eq (by unfold fgOK; rw [hw0]; simp_all))
 have c_21' := c_21
 try simp only [qq] at c_21'
 have h2 : inn (w0 f) 1 6 = true := by rw [hw0]; simpa using c_21
 refine W 5 ?_
 refine aw_loopk (ι := { k : Nat // k ≤ f.length ∧ ∀ i, (h : i < f.length) → i < k → fgRow (w0 f) f[i] = true }) [1, 23, 24] (fun i => [(25, I i.1), (3, B ((f.take i.1).any hasH))]) (fun H i => H) (fun i => f.length - i.1) (⟨0, Nat.zero_le _, by omega⟩) ⟨J, J, J, J, J, trivial⟩ rfl ?_
 rintro ⟨k, hk, hok⟩
 dsimp only [keepS, St.put, sget, slotsOf, nn1, nn2, nn3, nn4, nn5, nn6, Nat.reduceBEq, Nat.reduceAdd, nn7, nn8]
 refine W 1 ?_
 refine iff (fun c_26 c_26' => ?_) (fun c_26 c_26' => ?_)
 ·
  refine W 7 ?_
  refine sq_ev rfl (ev_index_map (k := 0) sl24.h J J rfl (by omega)) ?_
  refine W 3 ?_
  refine ifn (fun c_36 c_36' => ?_) (fun c_36 c_36' => ?_)
  ·
   refine W 1 ?_
   exact retQ_pure (v := .raw _) rfl rfl (Less.eq (by rw [fg_row_bad (k := k) (by omega) (fgRow_len (by rw [hw0]; omega))]))
  refine W 1 ?_
  refine sq_rangeS rfl Tryz.underlying9 J ?_
  refine W 0 ?_
  refine aw_loopk (ι := { j : Nat // j ≤ f[k].length ∧ ∀ i, (h : i < f[k].length) → i < j → chOK f[k][i] = true }) [1, 23, 24, 25, 38] (fun q => [(3, B ((f.take k).any hasH || (f[k].take q.1).any fun c => decide (c = 35)))]) (fun H q => H.set 1 (.raw (.stringIter ⟨f[k].toArray⟩ q.1))) (fun q => f[k].length - q.1) (⟨0, Nat.zero_le _, by omega⟩) ⟨(Less.eq (by show B ((f.take k).any hasH) = _; simp)), J, J, J, J, J, trivial⟩ rfl ?_
  rintro ⟨j, hj, hoj⟩
  dsimp only [keepS, St.put, sget, slotsOf, nn1, nn2, nn3, nn4, nn5, nn6, Nat.reduceBEq, Nat.reduceAdd, nn7, nn8]
  refine W 0 ?_
  refine sq_nextS rfl J rfl (fun n_39 => ?_) (fun n_39 => ?_)
  ·
   have hk' : j < f[k].length := by rw [bs_size] at n_39; exact n_39
   have hdl := decode_le ⟨f[k].toArray⟩ j
   have eC := any_take (q := fun c => decide (c = 35)) (l := f[k]) (k := j) hk'
   refine W 7 ?_
   refine sq_split 44 J (fun g12_2 => ?_) (fun g12_2 => ?_)
   ·
    have g12_2' := g12_2
    try simp only [qq] at g12_2'
    refine W 3 ?_
    refine aw_cond J (fun c_47 => ?_) (fun c_47 => ?_)
    ·
     have c_47' := c_47
     try simp only [qq] at c_47'
     refine W 1 ?_
     exact retQ_pure (v := .raw _) rfl rfl (Less.eq (by rw [fg_row_bad (k := k) (by omega) (fgRow_ch (j := j) hk' (ch_bad hk' (by omega)))]))
    have c_47' := c_47
    try simp only [qq] at c_47'
    have hdec := ch_dec hk' (by omega)
    refine W 2 ?_
    refine sq_split 49 J (fun g14_1 => ?_) (fun g14_1 => ?_)
    ·
     have g14_1' := g14_1
     try simp only [qq] at g14_1'
     have eF : B true = B ((f.take k).any hasH || (f[k].take (j + 1)).any fun c => decide (c = 35)) := by rw [eC, ← Bool.or_assoc, g14_1]; rfl
     refine W 4 ?_
     exact ⟨⟨j + 1, by omega, fun i h hi => (by by_cases e : i = j; (subst e; exact hdec.2); exact hoj i h (by omega))⟩, by simp only; omega, Sub.fin 2 ⟨(Less.eq eF), J, J, J, J, J, trivial⟩ (by rw [hdec.1] <;> rfl) (by simp [slotsIn, objsIn, sget, keepS, AObj.inB, AV.inB, AV.inL, AV.inE, inE_map]) (by simp [slotsIn, objsIn, sget, keepS, AObj.inB, AV.inB, AV.inL, AV.inE, inE_map]) (by simp [he0])⟩
    have g14_1' := g14_1
    try simp only [qq] at g14_1'
    have eF : B (decide (((Utf8.decode ⟨f[k].toArray⟩ j).1 : Int) = 35)) = B ((f.take k).any hasH || (f[k].take (j + 1)).any fun c => decide (c = 35)) := by rw [eC, ← Bool.or_assoc, g14_1, hdec.1, dec35]; rfl
    refine W 4 ?_
    exact ⟨⟨j + 1, by omega, fun i h hi => (by by_cases e : i = j; (subst e; exact hdec.2); exact hoj i h (by omega))⟩, by simp only; omega, Sub.fin 2 ⟨(Less.eq eF), J, J, J, J, J, trivial⟩ (by rw [hdec.1] <;> rfl) (by simp [slotsIn, objsIn, sget, keepS, AObj.inB, AV.inB, AV.inL, AV.inE, inE_map]) (by simp [slotsIn, objsIn, sget, keepS, AObj.inB, AV.inB, AV.inL, AV.inE, inE_map]) (by simp [he0])⟩
   have g12_2' := g12_2
   try simp only [qq] at g12_2'
   have hdec := ch_dec hk' (by omega)
   refine W 6 ?_
   refine sq_split 49 J (fun g14_1 => ?_) (fun g14_1 => ?_)
   ·
    have g14_1' := g14_1
    try simp only [qq] at g14_1'
    have eF : B true = B ((f.take k).any hasH || (f[k].take (j + 1)).any fun c => decide (c = 35)) := by rw [eC, ← Bool.or_assoc, g14_1]; rfl
    refine W 4 ?_
    exact ⟨⟨j + 1, by omega, fun i h hi => (by by_cases e : i = j; (subst e; exact hdec.2); exact hoj i h (by omega))⟩, by simp only; omega, Sub.fin 2 ⟨(Less.eq eF), J, J, J, J, J, trivial⟩ (by rw [hdec.1] <;> rfl) (by simp [slotsIn, objsIn, sget, keepS, AObj.inB, AV.inB, AV.inL, AV.inE, inE_map]) (by simp [slotsIn, objsIn, sget, keepS, AObj.inB, AV.inB, AV.inL, AV.inE, inE_map]) (by simp [he0])⟩
   have g14_1' := g14_1
   try simp only [qq] at g14_1'
   have eF : B (decide (((Utf8.decode ⟨f[k].toArray⟩ j).1 : Int) = 35)) = B ((f.take k).any hasH || (f[k].take (j + 1)).any fun c => decide (c = 35)) := by rw [eC, ← Bool.or_assoc, g14_1, hdec.1, dec35]; rfl
   refine W 4 ?_
   exact ⟨⟨j + 1, by omega, fun i h hi => (by by_cases e : i = j; (subst e; exact hdec.2); exact hoj i h (by omega))⟩, by simp only; omega, Sub.fin 2 ⟨(Less.eq eF), J, J, J, J, J, trivial⟩ (by rw [hdec.1] <;> rfl) (by simp [slotsIn, objsIn, sget, keepS, AObj.inB, AV.inB, AV.inL, AV.inE, inE_map]) (by simp [slotsIn, objsIn, sget, keepS, AObj.inB, AV.inB, AV.inL, AV.inE, inE_map]) (by simp [he0])⟩
  have hjl : j = f[k].length := by rw [bs_size] at n_39; omega
  refine V 4 ?_
  refine sq_nil ?_
  have hgood : fgRow (w0 f) f[k] = true := fgRow_ok (by omega) (fun i h => hoj i h (by omega))
  have eA := any_take (q := hasH) (l := f) (k := k) (by omega)
  have eB : hasH f[k] = (f[k].take j).any (fun c => decide (c = 35)) := by unfold hasH; rw [List.take_of_length_le (by omega)]
  exact ⟨⟨k + 1, by omega, fun i h hi => (by by_cases e : i = k; (subst e; exact hgood); exact hok i h (by omega))⟩, by simp only; omega, Sub.fin 1 ⟨J, (Less.eq (show B ((f.take k).any hasH || (f[k].take j).any fun c => decide (c = 35)) = _ by rw [eA, eB])), J, J, J, trivial⟩ rfl (by simp [slotsIn, objsIn, sget, keepS, AObj.inB, AV.inB, AV.inL, AV.inE, inE_map]) (by simp [slotsIn, objsIn, sget, keepS, AObj.inB, AV.inB, AV.inL, AV.inE, inE_map]) (by simp [he0])⟩
 refine W 2 ?_
 exact retQ_pure (v := .raw _) rfl rfl (Less.eq (by rw [fg_end h1 h2 (fun i h => hok i h (by omega)), show k = f.length by omega, List.take_length]))
end Go.Proofs.YtmbknoaneglilaaGreatDoor
namespace Go.Proofs.YtmbknoaneglilaaGreatDoor
open Go Go.Ab Ni Ol
instance ar241 : ArE Tryz.prog 241 2 240 1 := ⟨by kernel_rfl⟩
instance bi139 : BdI Tryz.prog 139 [.raw (.int .i64 0), .raw (.int .i64 0), .raw (.int .i64 0), .raw (.int .i64 0), .raw (.int .i64 0), .raw (.int .i64 0), .raw (.slice none 0 0), .raw (.int .i64 0), .raw (.int .i64 0), .raw (.int .i64 0)] true [(0, 6), (6, 1), (7, 3)] 0 := ⟨by kernel_rfl⟩
instance bi241 : BdI Tryz.prog 241 [.raw .nilFunc, .raw .nilFunc] false [] 1 := ⟨by kernel_rfl⟩
instance en137 : EnT Tryz.prog 137 := ⟨Ent.of Tryz.func137 (by kernel_rfl) rfl⟩
instance en138 : EnT Tryz.prog 138 := ⟨Ent.of Tryz.func138 (by kernel_rfl) rfl⟩
instance en146 : EnT Tryz.prog 146 := ⟨Ent.of Tryz.func146 (by kernel_rfl) rfl⟩
instance en166 : EnT Tryz.prog 166 := ⟨Ent.of Tryz.func166 (by kernel_rfl) rfl⟩
instance en172 : EnT Tryz.prog 172 := ⟨Ent.of Tryz.func172 (by kernel_rfl) rfl⟩
instance en173 : EnT Tryz.prog 173 := ⟨Ent.of Tryz.func173 (by kernel_rfl) rfl⟩
instance en188 : EnT Tryz.prog 188 := ⟨Ent.of Tryz.func188 (by kernel_rfl) rfl⟩
instance en189 : EnT Tryz.prog 189 := ⟨Ent.of Tryz.func189 (by kernel_rfl) rfl⟩
instance en196 : EnT Tryz.prog 196 := ⟨Ent.of Tryz.func196 (by kernel_rfl) rfl⟩
instance en197 : EnT Tryz.prog 197 := ⟨Ent.of Tryz.func197 (by kernel_rfl) rfl⟩
instance en208 : EnT Tryz.prog 208 := ⟨Ent.of Tryz.func208 (by kernel_rfl) rfl⟩
instance fo139_0 : FoF Tryz.prog 139 0 0 23 := ⟨by kernel_rfl⟩
instance fo139_1 : FoF Tryz.prog 139 1 6 26 := ⟨by kernel_rfl⟩
instance fo139_2 : FoF Tryz.prog 139 2 7 28 := ⟨by kernel_rfl⟩
theorem mo : Tryz.prog.follows .mixedOrders = true := by kernel_rfl
instance ty139 : TyF Tryz.prog 139 true 10 := ⟨by kernel_rfl⟩
instance ty23 : TyF Tryz.prog 23 true 6 := ⟨by kernel_rfl⟩
instance ty240 : TyF Tryz.prog 240 false 1 := ⟨by kernel_rfl⟩
instance ty241 : TyF Tryz.prog 241 true 2 := ⟨by kernel_rfl⟩
instance ty26 : TyF Tryz.prog 26 true 1 := ⟨by kernel_rfl⟩
instance ty28 : TyF Tryz.prog 28 true 3 := ⟨by kernel_rfl⟩
instance z139 : ZeO Tryz.prog 139 [.raw (.int .i64 0), .raw (.int .i64 0), .raw (.int .i64 0), .raw (.int .i64 0), .raw (.int .i64 0), .raw (.int .i64 0), .raw (.slice none 0 0), .raw (.int .i64 0), .raw (.int .i64 0), .raw (.int .i64 0)] := ⟨by kernel_rfl⟩
instance z241 : ZeO Tryz.prog 241 [.raw .nilFunc, .raw .nilFunc] := ⟨by kernel_rfl⟩
theorem wrn {n : Int} (h1 : -9223372036854775807 ≤ n) (h2 : n ≤ 9223372036854775807) : IntKind.i64.wrap (0 - n) = -n := by rw [Int.zero_sub]; exact wr (by omega) (by omega)
theorem from_pure {c : Ca} (hc : CaB c) {k axis edge : Int} (hk : -100 ≤ k ∧ k ≤ 100) (ha : 0 ≤ axis ∧ axis ≤ 16) (he : -20 ≤ edge ∧ edge ≤ 20) : APure Tryz.prog 208 [caA c, I k, I axis, I edge] (I (c.frm k axis edge)) := by
 refine apure_of (rs := [.tmp 8]) Tryz.func208 rfl rfl (Nat.le_of_ble_eq_true rfl) (by simp [AV.pureL, AV.pureB, AV.pureE, pureE_map]) (by first | rfl | (simp [AV.pureL, AV.pureB, AV.pureE, pureE_map])) fun e0 he0 => ?_
 refine V 2 ?_
 refine sq_nil (aw_seq ?_)
 obtain ⟨s1, s2, s3, s4, s5, s6⟩ := hc.st
 obtain ⟨p1, p2, p3⟩ := hc.pc
 have hf := frm_bd hc hk ha he
 refine W 20 ?_
 exact retQ_pure (v := .raw _) rfl rfl J
theorem blur_pure {c : Ca} (hc : CaB c) : APure Tryz.prog 166 [caA c] (I c.blur) := by
 refine apure_of (rs := [.tmp 2]) Tryz.func166 rfl rfl (Nat.le_of_ble_eq_true rfl) (by simp [AV.pureL, AV.pureB, AV.pureE, pureE_map]) (by first | rfl | (simp [AV.pureL, AV.pureB, AV.pureE, pureE_map])) fun e0 he0 => ?_
 refine V 2 ?_
 refine sq_nil (aw_seq ?_)
 obtain ⟨s1, s2, s3, s4, s5, s6⟩ := hc.st
 obtain ⟨p1, p2, p3⟩ := hc.pc
 have hf := blur_bd hc
 refine W 8 ?_
 exact retQ_pure (v := .raw _) rfl rfl J
theorem across_pure {c : Ca} (hc : CaB c) {k : Int} (hk : -90 ≤ k ∧ k ≤ 90) : APure Tryz.prog 196 [caA c, I k] (.tup [I (c.acr k).1, I (c.acr k).2]) := by
 refine apure_of (rs := [.tmp 4, .tmp 5]) Tryz.func196 rfl rfl (Nat.le_of_ble_eq_true rfl) (by simp [AV.pureL, AV.pureB, AV.pureE, pureE_map]) (by first | rfl | (simp [AV.pureL, AV.pureB, AV.pureE, pureE_map])) fun e0 he0 => ?_
 refine V 3 ?_
 refine sq_nil (aw_seq ?_)
 obtain ⟨s1, s2, s3, s4, s5, s6⟩ := hc.st
 obtain ⟨p1, p2, p3⟩ := hc.pc
 have a1 : (c.frm k c.s.x c.p.x) = (c.s.x - c.p.x) * c.s.far + (k - c.s.x) * (c.s.far - c.p.near) := rfl
 have a2 : (c.frm (k + 1) c.s.x c.p.x) = (c.s.x - c.p.x) * c.s.far + (k + 1 - c.s.x) * (c.s.far - c.p.near) := rfl
 have hf1 := frm_bd hc (k := k) (axis := c.s.x) (edge := c.p.x) (by omega) (by omega) (by omega)
 have hf2 := frm_bd hc (k := k + 1) (axis := c.s.x) (edge := c.p.x) (by omega) (by omega) (by omega)
 have hb := blur_bd hc
 have hb' : c.blur = c.s.flame * c.p.near := rfl
 refine aw_draw 27 mo (by kernel_rfl) ?_
 refine WD 8 ?_
 refine dcl A (from_pure hc (by omega) (by omega) (by omega)) ?_
 refine WD 1 ?_
 refine dcl A (blur_pure hc) ?_
 refine WD 10 ?_
 refine dcl A (from_pure hc (by omega) (by omega) (by omega)) ?_
 refine WD 1 ?_
 refine dcl A (blur_pure hc) ?_
 refine WD 3 ?_
 refine W 0 ?_
 exact retQ_pure (v := .tup [.raw _, .raw _]) rfl rfl J
theorem down_pure {c : Ca} (hc : CaB c) {k : Int} (hk : -90 ≤ k ∧ k ≤ 90) : APure Tryz.prog 197 [caA c, I k] (.tup [I (c.dwn k).1, I (c.dwn k).2]) := by
 refine apure_of (rs := [.tmp 4, .tmp 5]) Tryz.func197 rfl rfl (Nat.le_of_ble_eq_true rfl) (by simp [AV.pureL, AV.pureB, AV.pureE, pureE_map]) (by first | rfl | (simp [AV.pureL, AV.pureB, AV.pureE, pureE_map])) fun e0 he0 => ?_
 refine V 3 ?_
 refine sq_nil (aw_seq ?_)
 obtain ⟨s1, s2, s3, s4, s5, s6⟩ := hc.st
 obtain ⟨p1, p2, p3⟩ := hc.pc
 have a1 : (c.frm k c.s.y c.p.y) = (c.s.y - c.p.y) * c.s.far + (k - c.s.y) * (c.s.far - c.p.near) := rfl
 have a2 : (c.frm (k + 1) c.s.y c.p.y) = (c.s.y - c.p.y) * c.s.far + (k + 1 - c.s.y) * (c.s.far - c.p.near) := rfl
 have hf1 := frm_bd hc (k := k) (axis := c.s.y) (edge := c.p.y) (by omega) (by omega) (by omega)
 have hf2 := frm_bd hc (k := k + 1) (axis := c.s.y) (edge := c.p.y) (by omega) (by omega) (by omega)
 have hb := blur_bd hc
 have hb' : c.blur = c.s.flame * c.p.near := rfl
 refine aw_draw 27 mo (by kernel_rfl) ?_
 refine WD 8 ?_
 refine dcl A (from_pure hc (by omega) (by omega) (by omega)) ?_
 refine WD 1 ?_
 refine dcl A (blur_pure hc) ?_
 refine WD 10 ?_
 refine dcl A (from_pure hc (by omega) (by omega) (by omega)) ?_
 refine WD 1 ?_
 refine dcl A (blur_pure hc) ?_
 refine WD 3 ?_
 refine W 0 ?_
 exact retQ_pure (v := .tup [.raw _, .raw _]) rfl rfl J
theorem edges_pure  : APure Tryz.prog 188 [] (.agg [.fn (.func 196) [] [], .fn (.func 197) [] []]) := by
 refine apure_of (rs := [.cell 0 241]) Tryz.func188 rfl rfl (Nat.le_of_ble_eq_true rfl) (by simp [AV.pureL, AV.pureB, AV.pureE, pureE_map]) (by first | rfl | (simp [AV.pureL, AV.pureB, AV.pureE, pureE_map])) fun e0 he0 => ?_
 refine W 3 ?_
 exact retQ_res (vs := [.agg _]) rfl rfl ⟨resVar_cell rfl rfl ty241.h rfl, trivial⟩ J
theorem below_pure {a b : Int} (ha : U a) (hb : 2 ≤ b ∧ b ≤ 40) : APure Tryz.prog 189 [I a, I b] (I (a / b)) := by
 refine apure_of (rs := [.tmp 4]) Tryz.func189 rfl rfl (Nat.le_of_ble_eq_true rfl) (by simp [AV.pureL, AV.pureB, AV.pureE, pureE_map]) (by first | rfl | (simp [AV.pureL, AV.pureB, AV.pureE, pureE_map])) fun e0 he0 => ?_
 refine V 1 ?_
 refine sq_nil (aw_seq ?_)
 have hd := ediv_bd ha hb.1
 have he := below_eq (a := a) (b := b) (by omega)
 unfold U at ha hd
 refine W 2 ?_
 refine sq_ev rfl (ev_quo J J (by omega) (wr (by split at he <;> omega) (by split at he <;> omega))) ?_
 refine W 3 ?_
 refine sq_ev rfl (ev_rem J J (by omega)) ?_
 refine W 1 ?_
 refine iff (fun c1 c1' => ?_) (fun c1 c1' => ?_)
 ·
  rw [if_pos c1'] at he
  refine W 5 ?_
  exact retQ_pure (v := .raw _) rfl rfl (Less.eq (by rw [he]))
 rw [if_neg c1'] at he
 refine W 2 ?_
 exact retQ_pure (v := .raw _) rfl rfl (Less.eq (by rw [he]))
theorem meets0_pure {c : Ca} (hc : CaB c) {k : Int} (hk : -90 ≤ k ∧ k ≤ 90) : APure Tryz.prog 172 [caA c, I 0, I k] (.tup [I (c.mts (c.acr k)).1, I (c.mts (c.acr k)).2]) := by
 refine apure_of (rs := [.tmp 6, .tmp 7]) Tryz.func172 rfl rfl (Nat.le_of_ble_eq_true rfl) (by simp [AV.pureL, AV.pureB, AV.pureE, pureE_map]) (by first | rfl | (simp [AV.pureL, AV.pureB, AV.pureE, pureE_map])) fun e0 he0 => ?_
 refine V 3 ?_
 refine sq_nil (aw_seq ?_)
 obtain ⟨s1, s2, s3, s4, s5, s6⟩ := hc.st
 obtain ⟨p1, p2, p3⟩ := hc.pc
 have hb := acr_bd hc hk
 obtain ⟨hb1, hb2⟩ := hb
 have hb3 : U (-(c.acr k).2) := by unfold U at hb2 ⊢; omega
 have hm := mts_bd hc hb1 hb2
 unfold U Ca.mts at hm
 simp only at hm
 have hu : -20000 ≤ (c.acr k).2 ∧ (c.acr k).2 ≤ 20000 := hb2
 refine aw_draw 11 mo (by kernel_rfl) ?_
 refine dcl A (edges_pure) ?_
 refine WD 1 ?_
 refine dr_ev rfl (ev_indexv (k := 0) ar241.h ty240.h J J rfl (by decide) rfl) ?_
 refine WD 2 ?_
 refine dr_ev rfl (ev_call en196.h J (across_pure hc hk) ⟨J, J, trivial⟩) ?_
 refine WD 5 ?_
 refine W 0 ?_
 refine aw_draw 15 mo (by kernel_rfl) ?_
 refine WD 4 ?_
 refine dcl A (below_pure (by assumption) (by omega)) ?_
 refine WD 1 ?_
 refine dr_ev rfl (ev_neg J (wrn (by omega) (by omega))) ?_
 refine WD 3 ?_
 refine dcl A (below_pure (by assumption) (by omega)) ?_
 refine dr_ev rfl (ev_neg J (wrn (by omega) (by omega))) ?_
 refine WD 3 ?_
 refine W 0 ?_
 exact retQ_pure (v := .tup [.raw _, .raw _]) rfl rfl J
theorem meets1_pure {c : Ca} (hc : CaB c) {k : Int} (hk : -90 ≤ k ∧ k ≤ 90) : APure Tryz.prog 172 [caA c, I 1, I k] (.tup [I (c.mts (c.dwn k)).1, I (c.mts (c.dwn k)).2]) := by
 refine apure_of (rs := [.tmp 6, .tmp 7]) Tryz.func172 rfl rfl (Nat.le_of_ble_eq_true rfl) (by simp [AV.pureL, AV.pureB, AV.pureE, pureE_map]) (by first | rfl | (simp [AV.pureL, AV.pureB, AV.pureE, pureE_map])) fun e0 he0 => ?_
 refine V 3 ?_
 refine sq_nil (aw_seq ?_)
 obtain ⟨s1, s2, s3, s4, s5, s6⟩ := hc.st
 obtain ⟨p1, p2, p3⟩ := hc.pc
 have hb := dwn_bd hc hk
 obtain ⟨hb1, hb2⟩ := hb
 have hb3 : U (-(c.dwn k).2) := by unfold U at hb2 ⊢; omega
 have hm := mts_bd hc hb1 hb2
 unfold U Ca.mts at hm
 simp only at hm
 have hu : -20000 ≤ (c.dwn k).2 ∧ (c.dwn k).2 ≤ 20000 := hb2
 refine aw_draw 11 mo (by kernel_rfl) ?_
 refine dcl A (edges_pure) ?_
 refine WD 1 ?_
 refine dr_ev rfl (ev_indexv (k := 1) ar241.h ty240.h J J rfl (by decide) rfl) ?_
 refine WD 2 ?_
 refine dr_ev rfl (ev_call en197.h J (down_pure hc hk) ⟨J, J, trivial⟩) ?_
 refine WD 5 ?_
 refine W 0 ?_
 refine aw_draw 15 mo (by kernel_rfl) ?_
 refine WD 4 ?_
 refine dcl A (below_pure (by assumption) (by omega)) ?_
 refine WD 1 ?_
 refine dr_ev rfl (ev_neg J (wrn (by omega) (by omega))) ?_
 refine WD 3 ?_
 refine dcl A (below_pure (by assumption) (by omega)) ?_
 refine dr_ev rfl (ev_neg J (wrn (by omega) (by omega))) ?_
 refine WD 3 ?_
 refine W 0 ?_
 exact retQ_pure (v := .tup [.raw _, .raw _]) rfl rfl J
theorem hide_pure {c : Ca} (hc : CaB c) {row col : Int} : APure Tryz.prog 173 [caA c, I row, I col] (B (c.hide row col)) := by
 refine apure_of (rs := [.tmp 6]) Tryz.func173 rfl rfl (Nat.le_of_ble_eq_true rfl) (by simp [AV.pureL, AV.pureB, AV.pureE, pureE_map]) (by first | rfl | (simp [AV.pureL, AV.pureB, AV.pureE, pureE_map])) fun e0 he0 => ?_
 refine V 2 ?_
 refine sq_nil (aw_seq ?_)
 obtain ⟨f1, f2⟩ := hc.fg
 have w1 := hc.w
 have hw := w0_eq (f := c.f) (by omega)
 refine W 6 ?_
 refine cl A (in_pure _ _ _) ?_
 refine W 1 ?_
 refine sq_split 14 J (fun g1_7 => ?_) (fun g1_7 => ?_)
 ·
  have g1_7' := g1_7
  try simp only [qq] at g1_7'
  refine W 4 ?_
  refine sq_yes rfl rfl (less_b g1_7) rfl (ev_index_map (k := 0) sl24.h J J rfl (by omega)) ?_
  refine W 3 ?_
  refine cy A (in_pure _ _ _) ?_
  refine W 2 ?_
  refine sq_split 25 J (fun g1_18 => ?_) (fun g1_18 => ?_)
  ·
   have g1_18' := g1_18
   try simp only [qq] at g1_18'
   have k1 := g1_7
   have k2 := g1_18
   unfold inn at k1 k2
   simp only [Bool.and_eq_true, decide_eq_true_eq] at k1 k2
   obtain ⟨i, rfl⟩ : ∃ i : Nat, row = (i : Int) := ⟨row.toNat, by omega⟩
   obtain ⟨j, rfl⟩ : ∃ j : Nat, col = (j : Int) := ⟨col.toNat, by omega⟩
   have hr := hc.row i (by omega)
   refine W 11 ?_
   exact retQ_pure (v := .raw _) rfl rfl (Less.eq (by rw [hide_in hc (by omega) (by omega), dec35]))
  have g1_18' := g1_18
  try simp only [qq] at g1_18'
  refine W 11 ?_
  exact retQ_pure (v := .raw _) rfl rfl (Less.eq (by rw [hide_out (by simp only [g1_7, hw, Bool.true_and, g1_18])]))
 have g1_7' := g1_7
 try simp only [qq] at g1_7'
 refine W 22 ?_
 exact retQ_pure (v := .raw _) rfl rfl (Less.eq (by rw [hide_out (by simp only [g1_7, Bool.false_and])]))
theorem cell_pure {c : Ca} (hc : CaB c) {col row : Int} (h1 : -90 ≤ col ∧ col ≤ 90) (h2 : -90 ≤ row ∧ row ≤ 90) : APure Tryz.prog 147 [caA c, I col, I row] (C (c.cell col row)) := by
 refine apure_of (rs := [.tmp 6]) Tryz.func147 rfl rfl (Nat.le_of_ble_eq_true rfl) (by simp [AV.pureL, AV.pureB, AV.pureE, pureE_map]) (by first | rfl | (simp [AV.pureL, AV.pureB, AV.pureE, pureE_map])) fun e0 he0 => ?_
 refine V 2 ?_
 refine sq_nil (aw_seq ?_)
 have a1 := acr_bd hc h1
 have a2 := dwn_bd hc h2
 have m1 := mts_bd hc a1.1 a1.2
 have m2 := mts_bd hc a2.1 a2.2
 unfold U at m1 m2
 refine W 2 ?_
 refine cl A (meets0_pure hc h1) ?_
 refine W 7 ?_
 refine cl A (meets1_pure hc h2) ?_
 refine W 9 ?_
 refine aw_loopk (ι := { m : Int // (c.mts (c.dwn row)).1 ≤ m ∧ (m ≤ (c.mts (c.dwn row)).2 + 1 ∨ m = (c.mts (c.dwn row)).1) }) [3, 7, 8, 10] (fun i => [(11, B (c.boxAll (c.mts (c.acr col)) ((c.mts (c.dwn row)).1, i.1 - 1))), (12, B (c.boxAny (c.mts (c.acr col)) ((c.mts (c.dwn row)).1, i.1 - 1))), (13, I i.1)]) (fun H i => H) (fun i => ((c.mts (c.dwn row)).2 + 1 - i.1).toNat) (⟨(c.mts (c.dwn row)).1, Int.le_refl _, .inr rfl⟩) ⟨(Less.eq (by show B true = _; rw [Ca.boxAll_nil (by dsimp only; omega)])), (Less.eq (by show B false = _; rw [Ca.boxAny_nil (by dsimp only; omega)])), J, J, J, J, J, trivial⟩ rfl ?_
 rintro ⟨m, hm1, hm2⟩
 dsimp only [keepS, St.put, sget, slotsOf, nn1, nn2, nn3, nn4, nn5, nn6, Nat.reduceBEq, Nat.reduceAdd, nn7, nn8]
 refine W 3 ?_
 refine iff (fun c_31 c_31' => ?_) (fun c_31 c_31' => ?_)
 ·
  refine W 2 ?_
  refine aw_loopk (ι := { k : Int // (c.mts (c.acr col)).1 ≤ k ∧ (k ≤ (c.mts (c.acr col)).2 + 1 ∨ k = (c.mts (c.acr col)).1) }) [3, 7, 8, 10, 13] (fun i => [(11, B (c.boxAll (c.mts (c.acr col)) ((c.mts (c.dwn row)).1, m - 1) && c.rowAll m (c.mts (c.acr col)).1 (i.1 - 1))), (12, B (c.boxAny (c.mts (c.acr col)) ((c.mts (c.dwn row)).1, m - 1) || c.rowAny m (c.mts (c.acr col)).1 (i.1 - 1))), (14, I i.1)]) (fun H i => H) (fun i => ((c.mts (c.acr col)).2 + 1 - i.1).toNat) (⟨(c.mts (c.acr col)).1, Int.le_refl _, .inr rfl⟩) ⟨(Less.eq (by show B (c.boxAll (c.mts (c.acr col)) ((c.mts (c.dwn row)).1, m - 1)) = _; rw [Ca.rowAll_nil (by dsimp only; omega), Bool.and_true])), (Less.eq (by show B (c.boxAny (c.mts (c.acr col)) ((c.mts (c.dwn row)).1, m - 1)) = _; rw [Ca.rowAny_nil (by dsimp only; omega), Bool.or_false])), J, J, J, J, J, J, trivial⟩ rfl ?_
  rintro ⟨k, hk1, hk2⟩
  dsimp only [keepS, St.put, sget, slotsOf, nn1, nn2, nn3, nn4, nn5, nn6, Nat.reduceBEq, Nat.reduceAdd, nn7, nn8]
  refine W 3 ?_
  refine iff (fun c_37 c_37' => ?_) (fun c_37 c_37' => ?_)
  ·
   refine W 3 ?_
   refine cl A (hide_pure hc) ?_
   refine W 3 ?_
   refine sq_split 45 J (fun g11_1 => ?_) (fun g11_1 => ?_)
   ·
    have g11_1' := g11_1
    try simp only [qq] at g11_1'
    have eA : B (c.hide m k) = B (c.boxAll (c.mts (c.acr col)) ((c.mts (c.dwn row)).1, m - 1) && c.rowAll m (c.mts (c.acr col)).1 (k + 1 - 1)) := by rw [Int.add_sub_cancel, Ca.rowAll_snoc hk1, ← Bool.and_assoc, g11_1]; rfl
    refine W 4 ?_
    refine sq_split 49 J (fun g11_5 => ?_) (fun g11_5 => ?_)
    ·
     have g11_5' := g11_5
     try simp only [qq] at g11_5'
     have eB : B true = B (c.boxAny (c.mts (c.acr col)) ((c.mts (c.dwn row)).1, m - 1) || c.rowAny m (c.mts (c.acr col)).1 (k + 1 - 1)) := by rw [Int.add_sub_cancel, Ca.rowAny_snoc hk1, ← Bool.or_assoc, g11_5]; rfl
     refine W 7 ?_
     exact ⟨⟨k + 1, by omega, by omega⟩, by simp only; omega, Sub.slots ⟨(Less.eq (eA)), (Less.eq (eB)), J, J, J, J, J, J, trivial⟩⟩
    have g11_5' := g11_5
    try simp only [qq] at g11_5'
    have eB : B (c.hide m k) = B (c.boxAny (c.mts (c.acr col)) ((c.mts (c.dwn row)).1, m - 1) || c.rowAny m (c.mts (c.acr col)).1 (k + 1 - 1)) := by rw [Int.add_sub_cancel, Ca.rowAny_snoc hk1, ← Bool.or_assoc, g11_5]; rfl
    refine W 7 ?_
    exact ⟨⟨k + 1, by omega, by omega⟩, by simp only; omega, Sub.slots ⟨(Less.eq (eA)), (Less.eq (eB)), J, J, J, J, J, J, trivial⟩⟩
   have g11_1' := g11_1
   try simp only [qq] at g11_1'
   have eA : B false = B (c.boxAll (c.mts (c.acr col)) ((c.mts (c.dwn row)).1, m - 1) && c.rowAll m (c.mts (c.acr col)).1 (k + 1 - 1)) := by rw [Int.add_sub_cancel, Ca.rowAll_snoc hk1, ← Bool.and_assoc, g11_1]; rfl
   refine W 4 ?_
   refine sq_split 49 J (fun g11_5 => ?_) (fun g11_5 => ?_)
   ·
    have g11_5' := g11_5
    try simp only [qq] at g11_5'
    have eB : B true = B (c.boxAny (c.mts (c.acr col)) ((c.mts (c.dwn row)).1, m - 1) || c.rowAny m (c.mts (c.acr col)).1 (k + 1 - 1)) := by rw [Int.add_sub_cancel, Ca.rowAny_snoc hk1, ← Bool.or_assoc, g11_5]; rfl
    refine W 7 ?_
    exact ⟨⟨k + 1, by omega, by omega⟩, by simp only; omega, Sub.slots ⟨(Less.eq (eA)), (Less.eq (eB)), J, J, J, J, J, J, trivial⟩⟩
   have g11_5' := g11_5
   try simp only [qq] at g11_5'
   have eB : B (c.hide m k) = B (c.boxAny (c.mts (c.acr col)) ((c.mts (c.dwn row)).1, m - 1) || c.rowAny m (c.mts (c.acr col)).1 (k + 1 - 1)) := by rw [Int.add_sub_cancel, Ca.rowAny_snoc hk1, ← Bool.or_assoc, g11_5]; rfl
   refine W 7 ?_
   exact ⟨⟨k + 1, by omega, by omega⟩, by simp only; omega, Sub.slots ⟨(Less.eq (eA)), (Less.eq (eB)), J, J, J, J, J, J, trivial⟩⟩
  refine V 3 ?_
  refine sq_nil ?_
  have ek : c.rowAll m (c.mts (c.acr col)).1 (k - 1) = c.rowAll m (c.mts (c.acr col)).1 (c.mts (c.acr col)).2 := by rcases hk2 with h | h; (rw [show k - 1 = (c.mts (c.acr col)).2 by omega]); (rw [Ca.rowAll_nil (by omega), Ca.rowAll_nil (by omega)])
  have en : c.rowAny m (c.mts (c.acr col)).1 (k - 1) = c.rowAny m (c.mts (c.acr col)).1 (c.mts (c.acr col)).2 := by rcases hk2 with h | h; (rw [show k - 1 = (c.mts (c.acr col)).2 by omega]); (rw [Ca.rowAny_nil (by omega), Ca.rowAny_nil (by omega)])
  exact ⟨⟨m + 1, by omega, by omega⟩, by simp only; omega, Sub.slots ⟨(Less.eq (show B (c.boxAll (c.mts (c.acr col)) ((c.mts (c.dwn row)).1, m - 1) && c.rowAll m (c.mts (c.acr col)).1 (k - 1)) = _ by rw [Int.add_sub_cancel, Ca.boxAll_snoc hm1, ek])), (Less.eq (show B (c.boxAny (c.mts (c.acr col)) ((c.mts (c.dwn row)).1, m - 1) || c.rowAny m (c.mts (c.acr col)).1 (k - 1)) = _ by rw [Int.add_sub_cancel, Ca.boxAny_snoc hm1, en])), J, J, J, J, J, trivial⟩⟩
 have ek : c.boxAll (c.mts (c.acr col)) ((c.mts (c.dwn row)).1, m - 1) = c.boxAll (c.mts (c.acr col)) (c.mts (c.dwn row)) := by rcases hm2 with h | h; (rw [show m - 1 = (c.mts (c.dwn row)).2 by omega]); (rw [Ca.boxAll_nil (by omega)]; exact (Ca.boxAll_nil (x := (c.mts (c.acr col))) (a := (c.mts (c.dwn row)).1) (m := (c.mts (c.dwn row)).2) (by omega)).symm)
 have en : c.boxAny (c.mts (c.acr col)) ((c.mts (c.dwn row)).1, m - 1) = c.boxAny (c.mts (c.acr col)) (c.mts (c.dwn row)) := by rcases hm2 with h | h; (rw [show m - 1 = (c.mts (c.dwn row)).2 by omega]); (rw [Ca.boxAny_nil (by omega)]; exact (Ca.boxAny_nil (x := (c.mts (c.acr col))) (a := (c.mts (c.dwn row)).1) (m := (c.mts (c.dwn row)).2) (by omega)).symm)
 refine W 2 ?_
 refine aw_cond J (fun c_52 => ?_) (fun c_52 => ?_)
 ·
  have c_52' := c_52
  try simp only [qq] at c_52'
  refine W 1 ?_
  exact retQ_pure (v := .raw _) rfl rfl (Less.eq (by unfold Ca.cell Ca.cellAt; rw [← ek, ← en]; simp_all))
 have c_52' := c_52
 try simp only [qq] at c_52'
 refine W 2 ?_
 refine aw_cond J (fun c_54 => ?_) (fun c_54 => ?_)
 ·
  have c_54' := c_54
  try simp only [qq] at c_54'
  refine W 1 ?_
  exact retQ_pure (v := .raw _) rfl rfl (Less.eq (by unfold Ca.cell Ca.cellAt; rw [← ek, ← en]; simp_all))
 have c_54' := c_54
 try simp only [qq] at c_54'
 refine W 1 ?_
 exact retQ_pure (v := .raw _) rfl rfl (Less.eq (by unfold Ca.cell Ca.cellAt; rw [← ek, ← en]; simp_all))
theorem casting_pure (c : Ca) : APure Tryz.prog 97 [stA c.s, fgA c.f, pcA c.p] (.tup [caA c, B (caOK c)]) := by
 refine apure_of (rs := [.cell 6 139, .tmp 7]) Tryz.func97 rfl rfl (Nat.le_of_ble_eq_true rfl) (by simp [AV.pureL, AV.pureB, AV.pureE, pureE_map]) (by simp [AV.pureL, AV.pureB, AV.pureE, pureE_map]) fun e0 he0 => ?_
 refine W 5 ?_
 refine aw_drawc [] [15] _ mo (by kernel_rfl) (HSub.mask [3] 0 _) ?_
 first | refine dc_ev rfl (ev_load_agg J rfl ty23.h rfl) ?_ | refine dc_ev rfl (ev_load_agg_i J ty23.h (by exact Nat.le_of_ble_eq_true rfl)) ?_
 first | refine dc_ev rfl (ev_load_agg J rfl ty26.h rfl) ?_ | refine dc_ev rfl (ev_load_agg_i J ty26.h (by exact Nat.le_of_ble_eq_true rfl)) ?_
 first | refine dc_ev rfl (ev_load_agg J rfl ty28.h rfl) ?_ | refine dc_ev rfl (ev_load_agg_i J ty28.h (by exact Nat.le_of_ble_eq_true rfl)) ?_
 refine dc_ev rfl (ev_build bi139.h rfl) ?_
 first | refine dc_ev rfl (ev_load_agg J rfl ty23.h rfl) ?_ | refine dc_ev rfl (ev_load_agg_i J ty23.h (by exact Nat.le_of_ble_eq_true rfl)) ?_
 refine dc_ev rfl (ev_call en137.h J (isstage_pure _) ⟨J, trivial⟩) ?_
 refine dc_ev rfl (ev_mv (v := .raw _) J) ?_
 refine dc_split 14 J (fun g1_6 => ?_) (fun g1_6 => ?_)
 ·
  have g1_6' := g1_6
  try simp only [qq] at g1_6'
  first | refine dc_yes rfl rfl (less_b g1_6) rfl (ev_load_agg J rfl ty26.h rfl) ?_ | refine dc_yes rfl rfl (less_b g1_6) rfl (ev_load_agg_i J ty26.h (by exact Nat.le_of_ble_eq_true rfl)) ?_
  refine dc_yes rfl rfl (less_b g1_6) rfl (ev_call en138.h J (isfigure_pure _) ⟨J, trivial⟩) ?_
  refine dc_ev rfl (ev_pickT (v := .raw _) (less_b g1_6) J) ?_
  refine dc_ev rfl (ev_mv (v := .raw _) J) ?_
  refine dc_split 18 J (fun g1_10 => ?_) (fun g1_10 => ?_)
  ·
   have g1_10' := g1_10
   try simp only [qq] at g1_10'
   first | refine dc_yes rfl rfl (less_b g1_10) rfl (ev_load_agg J rfl ty23.h rfl) ?_ | refine dc_yes rfl rfl (less_b g1_10) rfl (ev_load_agg_i J ty23.h (by exact Nat.le_of_ble_eq_true rfl)) ?_
   first | refine dc_yes rfl rfl (less_b g1_10) rfl (ev_load_agg J rfl ty28.h rfl) ?_ | refine dc_yes rfl rfl (less_b g1_10) rfl (ev_load_agg_i J ty28.h (by exact Nat.le_of_ble_eq_true rfl)) ?_
   refine dc_yes rfl rfl (less_b g1_10) rfl (ev_call en146.h J (isplace_pure _ _ (by have := stOK_iff.1 g1_6; omega)) ⟨J, J, trivial⟩) ?_
   refine dc_ev rfl (ev_pickT (v := .raw _) (less_b g1_10) J) ?_
   refine dc_eff rfl rfl (eff_store rfl J J rfl rfl ty139.h rfl rfl) (by apply HL.sub; repeat' (first | exact HL.nil _ | apply HL.same | apply HL.tok)) ?_
   refine dc_ev rfl (ev_as (v := .raw _) J) ?_
   refine dc_nil ?_
   refine W 0 ?_
   exact retQ_res (vs := [.agg _, .raw _]) rfl rfl ⟨resVar_cell rfl rfl ty139.h rfl, resVar_tmp _ _ _, trivial⟩ (Less.eq (by unfold caOK; simp [*]))
  have g1_10' := g1_10
  try simp only [qq] at g1_10'
  refine dc_no rfl rfl (less_b g1_10) rfl rfl ?_
  refine dc_no rfl rfl (less_b g1_10) rfl rfl ?_
  refine dc_no rfl rfl (less_b g1_10) rfl rfl ?_
  refine dc_ev rfl (ev_pickF (v := .raw _) (less_b g1_10) J) ?_
  refine dc_eff rfl rfl (eff_store rfl J J rfl rfl ty139.h rfl rfl) (by apply HL.sub; repeat' (first | exact HL.nil _ | apply HL.same | apply HL.tok)) ?_
  refine dc_ev rfl (ev_as (v := .raw _) J) ?_
  refine dc_nil ?_
  refine W 0 ?_
  exact retQ_res (vs := [.agg _, .raw _]) rfl rfl ⟨resVar_cell rfl rfl ty139.h rfl, resVar_tmp _ _ _, trivial⟩ (Less.eq (by unfold caOK; simp [*]))
 have g1_6' := g1_6
 try simp only [qq] at g1_6'
 refine dc_no rfl rfl (less_b g1_6) rfl rfl ?_
 refine dc_no rfl rfl (less_b g1_6) rfl rfl ?_
 refine dc_ev rfl (ev_pickF (v := .raw _) (less_b g1_6) J) ?_
 refine dc_ev rfl (ev_mv (v := .raw _) J) ?_
 refine dc_no rfl rfl J rfl rfl ?_
 refine dc_no rfl rfl J rfl rfl ?_
 refine dc_no rfl rfl J rfl rfl ?_
 refine dc_ev rfl (ev_pickF (v := .raw _) J J) ?_
 refine dc_eff rfl rfl (eff_store rfl J J rfl rfl ty139.h rfl rfl) (by apply HL.sub; repeat' (first | exact HL.nil _ | apply HL.same | apply HL.tok)) ?_
 refine dc_ev rfl (ev_as (v := .raw _) J) ?_
 refine dc_nil ?_
 refine W 0 ?_
 exact retQ_res (vs := [.agg _, .raw _]) rfl rfl ⟨resVar_cell rfl rfl ty139.h rfl, resVar_tmp _ _ _, trivial⟩ (Less.eq (by unfold caOK; simp [*]))
end Go.Proofs.YtmbknoaneglilaaGreatDoor
namespace Go.Proofs.YtmbknoaneglilaaGreatDoor
open Go Go.Ab Ni Ol
instance en144 : EnT Tryz.prog 144 := ⟨Ent.of Tryz.func144 (by kernel_rfl) rfl⟩
instance en145 : EnT Tryz.prog 145 := ⟨Ent.of Tryz.func145 (by kernel_rfl) rfl⟩
instance en170 : EnT Tryz.prog 170 := ⟨Ent.of Tryz.func170 (by kernel_rfl) rfl⟩
instance fo191_0 : FoF Tryz.prog 191 0 0 189 := ⟨by kernel_rfl⟩
instance fo191_1 : FoF Tryz.prog 191 1 1 92 := ⟨by kernel_rfl⟩
instance sf92 : SlS Tryz.prog 92 5 1 1 := ⟨SlFact.of (by kernel_rfl)⟩
instance sl92 : SlE Tryz.prog 92 5 1 := ⟨by kernel_rfl⟩
instance ty189 : TyF Tryz.prog 189 false 1 := ⟨by kernel_rfl⟩
instance ty191 : TyF Tryz.prog 191 true 2 := ⟨by kernel_rfl⟩
instance ty92 : TyF Tryz.prog 92 false 1 := ⟨by kernel_rfl⟩
instance ud92 : UnD Tryz.prog 92 (.slice 5) := ⟨Tryz.underlying92⟩
abbrev bys (l : List UInt8) : List (List AV) := l.map fun c => [C c]
theorem noesc (a : Value) (w : World) : (callFunc 187 #[a]).run Tryz.prog w = .ok (.value a) w := by
  rw [run_callFunc_extern (fn := Tryz.f187) (e := Extern.AbiNoEscape.same) Tryz.func187 (by decide) rfl rfl rfl]
  rfl
theorem pt189 : Tryz.prog.underlying 189 = some (.pointer (Tryz.prog.pointee 189)) := by kernel_rfl
theorem in191 : ∃ ji, Tryz.prog.info? 191 = some ji ∧ ji.size ≠ 0 := by
  have h := ty191.h
  unfold tySz at h
  split at h
  · rename_i d i h1 h2
    simp only [Option.some.injEq, Prod.mk.injEq] at h
    exact ⟨i, h2, by omega⟩
  · cases h
theorem lies191 : liesAt Tryz.prog Tryz.prog.depth 191 (2 / Tryz.prog.cellsOf 191) 0 191 1 = true := by kernel_rfl
theorem cell5 : Tryz.prog.cellsOf 5 = 1 := by kernel_rfl
theorem set_wb {α : Type} {H : List α} {k j : Nat} {a b t : α} (h : k ≠ j) : ((H.set k a).set j t).set k b = (H.set k b).set j t := by rw [List.set_comm _ _ h, List.set_set, List.set_comm _ _ h.symm]
theorem hsub_tok {H : List AObj} {j n m : Nat} (hj : H[j]? = some (.tok n)) : HSub H (H.set j (.tok m)) := fun i o h hn => by
  rw [List.getElem?_set_ne (fun e => by subst e; rw [hj] at h; cases h; exact hn _ rfl)]; exact h
theorem set_same {α : Type} {l : List α} {i : Nat} {a : α} (h : l[i]? = some a) : l.set i a = l := by
  have hi := lt_of_get? h
  rw [List.getElem?_eq_getElem hi, Option.some.injEq] at h
  rw [← h]; exact List.set_getElem_self hi
theorem copycheck_nil {H : List AObj} {k : Nat} {a : AV} (hk : H[k]? = some (.tcells 191 [.raw (.pointer none), a])) : ACall Tryz.prog 170 [.ptr k 0] H (fun x H' => x = .ret (.tup []) ∧ H' = H.set k (.tcells 191 [.ptr k 0, a])) := by
  refine acall_of (rs := []) Tryz.func170 rfl rfl (Nat.le_of_ble_eq_true rfl) fun e0 he0 => ?_
  refine W 1 ?_
  refine sq_ev rfl (ev_nilCheck J) ?_
  refine W 1 ?_
  refine sq_ev rfl (ev_load_t J hk ty189.h rfl) ?_
  refine sq_ev rfl (ev_ptr_nil pt189 J J) ?_
  refine W 1 ?_
  obtain ⟨ji, hi1, hi2⟩ := in191
  refine W 2 ?_
  refine sq_ev rfl (ev_toUnsafe Tryz.underlying189 Tryz.underlying238 hi1 hi2 J hk (Nat.succ_pos _)) ?_
  refine sq_ev rfl (ev_same noesc J J) ?_
  refine sq_ev rfl (ev_fromUnsafe Tryz.underlying238 Tryz.underlying189 hi1 J hk lies191) ?_
  refine sq_ev rfl (ev_nilCheck J) ?_
  refine W 1 ?_
  refine sq_store_t rfl J J rfl hk ty189.h rfl rfl ?_
  refine W 0 ?_
  exact ⟨rfl, .tup [], rfl, rfl, rfl⟩
theorem copycheck_self {H : List AObj} {k : Nat} {a : AV} (hk : H[k]? = some (.tcells 191 [.ptr k 0, a])) : ACall Tryz.prog 170 [.ptr k 0] H (fun x H' => x = .ret (.tup []) ∧ H' = H.set k (.tcells 191 [.ptr k 0, a])) := by
 refine acall_of (rs := []) Tryz.func170 rfl rfl (Nat.le_of_ble_eq_true rfl) fun e0 he0 => ?_
 refine W 1 ?_
 refine sq_ev rfl (ev_nilCheck J) ?_
 refine W 1 ?_
 refine sq_ev rfl (ev_load_t J hk ty189.h rfl) ?_
 refine sq_ev rfl (ev_ptr_some pt189 J J) ?_
 refine V 1 ?_
 refine aw_seq ?_
 obtain ⟨ji, hi1, hi2⟩ := in191
 refine W 1 ?_
 refine sq_ev rfl (ev_nilCheck J) ?_
 refine W 1 ?_
 refine sq_ev rfl (ev_load_t J hk ty189.h rfl) ?_
 refine W 1 ?_
 refine sq_ev rfl (ev_ptr_same Tryz.underlying189 hi1 J J) ?_
 refine W 1 ?_
 exact ⟨rfl, .tup [], rfl, rfl, (set_same hk).symm⟩
theorem copycheck_call {H : List AObj} {k : Nat} {b a : AV} (hb : b = .raw (.pointer none) ∨ b = .ptr k 0) (hk : H[k]? = some (.tcells 191 [b, a])) :
    ACall Tryz.prog 170 [.ptr k 0] H (fun x H' => x = .ret (.tup []) ∧ H' = H.set k (.tcells 191 [.ptr k 0, a])) := by
  rcases hb with rfl | rfl
  · exact copycheck_nil hk
  · exact copycheck_self hk
theorem writebyte_call {H : List AObj} {k j : Nat} {b : AV} {l : List UInt8} {c : UInt8} (hb : b = .raw (.pointer none) ∨ b = .ptr k 0) (hk : H[k]? = some (.tcells 191 [b, .ownb j 1 5 (bys l)])) (hj : H[j]? = some (.tok l.length)) (hl : l.length ≤ 1000000) : ACall Tryz.prog 144 [.ptr k 0, C c] H (fun x H' => x = .ret (.raw .nilIface) ∧ H' = (H.set k (.tcells 191 [.ptr k 0, .ownb j 1 5 (bys (l ++ [c]))])).set j (.tok (l ++ [c]).length)) := by
  refine acall_of (rs := [.tmp 4]) Tryz.func144 rfl rfl (Nat.le_of_ble_eq_true rfl) fun e0 he0 => ?_
  refine V 1 ?_
  refine sq_nil (aw_seq ?_)
  have hkj : k ≠ j := fun h => by rw [h, hj] at hk; cases hk
  have hkl := lt_of_get? hk
  refine W 1 ?_
  refine sq_call (args := [.ptr k 0]) rfl en170.h J ⟨J, trivial⟩ (copycheck_call hb hk) ?_ (by rintro v H' ⟨h, _⟩; cases h)
  rintro _ _ ⟨h, rfl⟩
  cases h
  refine sq_nil (aw_seq ?_)
  have hk1 : (H.set k (.tcells 191 [.ptr k 0, .ownb j 1 5 (bys l)]))[k]? = some (.tcells 191 [.ptr k 0, .ownb j 1 5 (bys l)]) := List.getElem?_set_self hkl
  have hj1 : (H.set k (.tcells 191 [.ptr k 0, .ownb j 1 5 (bys l)]))[j]? = some (.tok (bys l).length) := by rw [List.getElem?_set_ne hkj, hj, List.length_map]
  refine W 2 ?_
  refine sq_ev rfl (ev_nilCheck J) ?_
  refine W 1 ?_
  refine sq_ev rfl (ev_load_t J hk1 ty92.h rfl) ?_
  refine W 1 ?_
  refine sq_ev rfl (ev_buildSlice (es := [[_]]) sf92.h rfl rfl rfl rfl) ?_
  refine sq_append_b (xs := [[C c]]) rfl sf92.h Tryz.underlying92 rfl hj1 (less_slx _ _) (Nat.succ_pos _) (by simp; omega) (by simp; omega) ?_
  refine sq_ev rfl (ev_nilCheck J) ?_
  refine W 1 ?_
  have hk2 : ((H.set k (.tcells 191 [.ptr k 0, .ownb j 1 5 (bys l)])).set j (.tok (bys l ++ [[C c]]).length))[k]? = some (.tcells 191 [.ptr k 0, .ownb j 1 5 (bys l)]) := by rw [List.getElem?_set_ne (Ne.symm hkj), hk1]
  refine sq_store_t rfl J J rfl hk2 ty92.h rfl rfl ?_
  refine W 1 ?_
  exact retQ_any (vs := [.raw _]) rfl rfl ⟨resVar_tmp _ _ _, trivial⟩ (⟨rfl, by show (((H.set k (.tcells 191 [.ptr k 0, .ownb j 1 5 (bys l)])).set j (.tok (bys l ++ [[C c]]).length)).set k (.tcells 191 [.ptr k 0, .ownb j 1 5 (bys l ++ [[C c]])])) = _; rw [set_wb hkj]; simp⟩)
theorem bstring_call {H : List AObj} {k j : Nat} {b : AV} {l : List UInt8} (hk : H[k]? = some (.tcells 191 [b, .ownb j 1 5 (bys l)])) (hj : H[j]? = some (.tok l.length)) (hne : l ≠ []) (hl : l.length ≤ 1000000) : ACall Tryz.prog 145 [.ptr k 0] H (fun x H' => x = .ret (S l) ∧ H' = H.set j (.tok (l.length + 1))) := by
 refine acall_of (rs := [.tmp 2]) Tryz.func145 rfl rfl (Nat.le_of_ble_eq_true rfl) fun e0 he0 => ?_
 refine V 1 ?_
 refine sq_nil (aw_seq ?_)
 have hne' : bys l ≠ [] := fun h => hne (List.map_eq_nil_iff.1 h)
 refine aw_drawc [] [10] _ mo (by kernel_rfl) (HSub.refl _) ?_
 first | refine dc_ev rfl (ev_mv (v := .ptr _ _) J) ?_ | refine dc_ev rfl (ev_mv (v := .raw _) J) ?_
 refine dc_ev rfl (ev_nilCheck J) ?_
 first | refine dc_ev rfl (ev_fieldAddr fo191_1.h J) ?_ | refine dc_ev rfl (ev_fieldAddr_i fo191_1.h J) ?_
 refine dc_ev rfl (ev_load_t J hk ty92.h rfl) ?_
 refine dc_ev rfl (ev_unsafeData_map J hne) ?_
 first | refine dc_ev rfl (ev_mv (v := .ptr _ _) J) ?_ | refine dc_ev rfl (ev_mv (v := .raw _) J) ?_
 refine dc_ev rfl (ev_nilCheck J) ?_
 first | refine dc_ev rfl (ev_fieldAddr fo191_1.h J) ?_ | refine dc_ev rfl (ev_fieldAddr_i fo191_1.h J) ?_
 refine dc_ev rfl (ev_load_t J hk ty92.h rfl) ?_
 refine dc_ev rfl (ev_len_ownb_map sl92.h J) ?_
 refine dc_eff rfl rfl (eff_unsafeString (pt := 227) (f := 1) rfl J J hne hk rfl hj Tryz.underlying227 cell5 (by omega)) (hsub_tok hj) ?_
 refine dc_ev rfl (ev_as (v := .raw _) J) ?_
 refine dc_nil ?_
 refine W 0 ?_
 exact retQ_any (vs := [.raw _]) rfl rfl ⟨resVar_tmp _ _ _, trivial⟩ (⟨rfl, rfl⟩)
end Go.Proofs.YtmbknoaneglilaaGreatDoor
namespace Go.Proofs.YtmbknoaneglilaaGreatDoor
open Go Go.Ab Ni Ol
instance en147 : EnT Tryz.prog 147 := ⟨Ent.of Tryz.func147 (by kernel_rfl) rfl⟩
instance en148 : EnT Tryz.prog 148 := ⟨Ent.of Tryz.func148 (by kernel_rfl) rfl⟩
instance sf24 : SlS Tryz.prog 24 9 1 16 := ⟨SlFact.of (by kernel_rfl)⟩
instance ud24 : UnD Tryz.prog 24 (.slice 9) := ⟨Tryz.underlying24⟩
instance z191 : ZeO Tryz.prog 191 [.raw (.pointer none), .raw (.slice none 0 0)] := ⟨by kernel_rfl⟩
theorem inE_ints (n : Nat) (l : List Int) : AV.inE n (l.map fun x => [I x]) = true := inE_map fun x _ => by simp [AV.inL, AV.inB]
theorem inE_strs (n : Nat) (l : List (List UInt8)) : AV.inE n (l.map fun x => [S x]) = true := inE_map fun x _ => by simp [AV.inL, AV.inB]
theorem inE_figs (n : Nat) (l : List Fg) : AV.inE n (l.map fun f => [strs f]) = true := inE_map fun x _ => by simp [AV.inL, AV.inB, inE_strs]
theorem inE_cloths (n : Nat) (l : List (List (List UInt8))) : AV.inE n (l.map fun f => [strs f]) = true := inE_map fun x _ => by simp [AV.inL, AV.inB, inE_strs]
def bb (k : Nat) : Nat → AV | 0 => .raw (.pointer none) | _ + 1 => .ptr k 0
theorem bb_in (n : Nat) : AV.inB 4 (bb 2 n) = true := by cases n <;> rfl
theorem bb_or (k n : Nat) : bb k n = .raw (.pointer none) ∨ bb k n = .ptr k 0 := by cases n with | zero => exact .inl rfl | succ n => exact .inr rfl
def rowT (c : Ca) (m : Nat) (k : Nat) : List UInt8 := (List.range k).map fun (i : Nat) => c.cell (i : Int) (m : Int)
theorem rowT_len (c : Ca) (m k : Nat) : (rowT c m k).length = k := by simp [rowT]
theorem rowT_succ (c : Ca) (m k : Nat) : rowT c m (k + 1) = rowT c m k ++ [c.cell (k : Int) (m : Int)] := by unfold rowT; rw [List.range_succ]; simp
theorem shad_len (c : Ca) : c.shadow.length = c.s.high.toNat := by simp [Ca.shadow]
theorem shad_row {c : Ca} {m : Nat} (h : m < c.shadow.length) : c.shadow[m] = c.srow m := by simp [Ca.shadow]
theorem srow_len (c : Ca) (m : Nat) : (c.srow m).length = c.s.wide.toNat := by simp [Ca.srow]
theorem srow_cell {c : Ca} {m k : Nat} (h : k < (c.srow m).length) : (c.srow m)[k] = c.cell (k : Int) (m : Int) := by simp [Ca.srow]
theorem ncount1_pure (s : List UInt8) (ch : UInt8) : APure Tryz.prog 148 [S s, S [ch]] (I (s.count ch)) :=
  apure_of_calls (vs := [.string ⟨s.toArray⟩, .string ⟨#[ch]⟩]) fun w hw => (Tryz.strings_Count_one ⟨s.toArray⟩ ch w).mono fun _ _ ⟨h1, h2⟩ => ⟨by rw [h1]; rfl, by rw [h2]; exact ⟨rfl, rfl⟩, #[], by rw [h2]; simp⟩
theorem cnt_take {ch : UInt8} {l : List (List UInt8)} {k : Nat} (h : k < l.length) : cnt ch (l.take (k + 1)) = cnt ch (l.take k) + (l[k].count ch : Int) := by
  unfold cnt; rw [List.take_succ_eq_append_getElem h, List.map_append, List.sum_append]; simp
theorem cnt_bd (ch : UInt8) : ∀ (l : List (List UInt8)) (n : Nat), (∀ r ∈ l, r.length ≤ n) → 0 ≤ cnt ch l ∧ cnt ch l ≤ (l.length : Int) * n
  | [], n, _ => by simp [cnt]
  | r :: l, n, h => by
    have h1 := cnt_bd ch l n fun x hx => h x (List.mem_cons_of_mem _ hx)
    have h2 : r.count ch ≤ n := Nat.le_trans List.count_le_length (h r (List.mem_cons_self ..))
    have e : cnt ch (r :: l) = (r.count ch : Int) + cnt ch l := by unfold cnt; simp
    rw [e, List.length_cons, Int.natCast_add, Int.add_mul]
    omega
theorem shadow_pure {c : Ca} (hc : CaB c) : APure Tryz.prog 98 [caA c] (strs c.shadow) := by
  refine apure_of (rs := [.tmp 2]) Tryz.func98 rfl rfl (Nat.le_of_ble_eq_true rfl) (by simp [AV.pureL, AV.pureB, AV.pureE, pureE_map]) (by first | rfl | (simp [AV.pureL, AV.pureB, AV.pureE, pureE_map])) fun e0 he0 => ?_
  refine V 2 ?_
  refine sq_nil (aw_seq ?_)
  obtain ⟨s1, s2, s3, s4, s5, s6⟩ := hc.st
  refine V 5 ?_
  refine sq_nil (aw_block ?_)
  refine aw_sub (sub_token 3 1 J) ?_
  refine aw_loopk (ι := { k : Nat // k ≤ c.s.high.toNat }) [1, 9] (fun i => [(10, I i.1), (3, .own 1 1 (((List.range i.1).map c.srow).map fun x => [S x]))]) (fun H i => H.set 1 (.tok (((List.range i.1).map c.srow).map fun x => [S x]).length)) (fun i => c.s.high.toNat - i.1) (⟨0, Nat.zero_le _⟩) ⟨J, J, J, J, trivial⟩ rfl ?_
  rintro ⟨m, hm⟩
  dsimp only [keepS, St.put, sget, slotsOf, nn1, nn2, nn3, nn4, nn5, nn6, Nat.reduceBEq, Nat.reduceAdd, nn7, nn8]
  refine W 1 ?_
  refine iff (fun c_11 c_11' => ?_) (fun c_11 c_11' => ?_)
  · skip
    have hmh : m < c.s.high.toNat := by omega
    have hrl := rowT_len c m c.s.wide.toNat
    have eS : ((List.range (m + 1)).map c.srow).map (fun x => [S x]) = ((List.range m).map c.srow).map (fun x => [S x]) ++ [[S (c.srow m)]] := by rw [List.range_succ]; simp
    refine W 2 ?_
    refine sq_alloc_t rfl z191.h ?_
    refine V 4 ?_
    refine sq_nil (aw_block ?_)
    refine aw_sub (sub_bld (k := 2) (bt := 191) (et := 5) (a := .raw (.pointer none)) rfl) ?_
    dsimp only [keepS, St.put, sget, slotsOf, nn1, nn2, nn3, nn4, nn5, nn6, Nat.reduceBEq, Nat.reduceAdd, nn7, nn8]
    refine aw_loopk (ι := { k : Nat // k ≤ c.s.wide.toNat }) [1, 3, 4, 5, 9, 10, 15] (fun i => [(16, I i.1)]) (fun H i => (H.set 2 (.tcells 191 [bb 2 i.1, .ownb 3 1 5 (bys (rowT c m i.1))])).set 3 (.tok (rowT c m i.1).length)) (fun i => c.s.wide.toNat - i.1) (⟨0, Nat.zero_le _⟩) ⟨J, J, J, J, J, J, J, J, trivial⟩ rfl ?_
    rintro ⟨k, hk2⟩
    dsimp only [keepS, St.put, sget, slotsOf, nn1, nn2, nn3, nn4, nn5, nn6, Nat.reduceBEq, Nat.reduceAdd, nn7, nn8]
    refine W 1 ?_
    refine iff (fun c_17 c_17' => ?_) (fun c_17 c_17' => ?_)
    · skip
      have hkw : k < c.s.wide.toNat := by omega
      refine W 5 ?_
      refine cl A (cell_pure hc (by omega) (by omega)) ?_
      refine sq_call (args := [.ptr 2 0, C (c.cell k m)]) rfl en144.h J ⟨J, J, trivial⟩ (writebyte_call (k := 2) (j := 3) (l := rowT c m k) (c := c.cell k m) (bb_or 2 k) rfl rfl (by rw [rowT_len]; omega)) ?_ (by rintro v H' ⟨h, _⟩; cases h)
      rintro _ _ ⟨h, rfl⟩
      cases h
      refine W 2 ?_
      exact ⟨⟨k + 1, by omega⟩, by simp only; omega, Sub.fin 4 ⟨J, J, J, J, J, J, J, J, trivial⟩ (congrArg (fun l => [_, _, AObj.tcells 191 [.ptr 2 0, .ownb 3 1 5 (bys l)], .tok l.length]) (rowT_succ c m k).symm) (by simp [slotsIn, objsIn, sget, keepS, AObj.inB, AV.inB, AV.inL, AV.inE, inE_map, bb_in, inE_ints, inE_strs, inE_figs, inE_cloths, -List.map_append, -List.map_take, -List.map_map]) (by simp [slotsIn, objsIn, sget, keepS, AObj.inB, AV.inB, AV.inL, AV.inE, inE_map, bb_in, inE_ints, inE_strs, inE_figs, inE_cloths, -List.map_append, -List.map_take, -List.map_map]) (by simp [he0])⟩
    · skip
      obtain rfl : k = c.s.wide.toNat := by omega
      refine W 1 ?_
      refine sq_call (args := [.ptr 2 0]) rfl en145.h J ⟨J, trivial⟩ (bstring_call (k := 2) (j := 3) (l := rowT c m c.s.wide.toNat) rfl rfl (by intro h; have := congrArg List.length h; rw [rowT_len] at this; simp at this; omega) (by rw [rowT_len]; omega)) ?_ (by rintro v H' ⟨h, _⟩; cases h)
      rintro _ _ ⟨h, rfl⟩
      cases h
      refine sq_ev rfl (ev_buildSlice (es := [[_]]) sf24.h rfl rfl rfl rfl) ?_
      first | refine sq_append rfl sf24.h Tryz.underlying24 rfl rfl J (Nat.succ_pos _) (by simp; omega) (by simp; omega) ?_ | refine sq_append rfl sf24.h Tryz.underlying24 rfl rfl (less_slx _ _) (Nat.succ_pos _) (by simp; omega) (by simp; omega) ?_
      refine W 3 ?_
      exact ⟨⟨m + 1, by omega⟩, by simp only; omega, Sub.fin 2 ⟨J, Less.eq (b := .own 1 1 (((List.range (m + 1)).map c.srow).map fun x => [S x])) (by rw [eS] <;> rfl), J, J, trivial⟩ (congrArg (fun n => [_, AObj.tok n]) (congrArg List.length eS.symm)) (by simp [slotsIn, objsIn, sget, keepS, AObj.inB, AV.inB, AV.inL, AV.inE, inE_map, inE_ints, inE_strs, inE_figs, inE_cloths, -List.map_append, -List.map_take, -List.map_map]) (by simp [slotsIn, objsIn, sget, keepS, AObj.inB, AV.inB, AV.inL, AV.inE, inE_map, inE_ints, inE_strs, inE_figs, inE_cloths, -List.map_append, -List.map_take, -List.map_map]) (by simp [he0])⟩
  · skip
    obtain rfl : m = c.s.high.toNat := by omega
    refine W 2 ?_
    exact retQ_pure (v := .own _ _ _) rfl rfl (Less.trans (less_own _ _ _) (Less.eq (by simp [Ca.shadow])))
end Go.Proofs.YtmbknoaneglilaaGreatDoor
namespace Go.Proofs.YtmbknoaneglilaaGreatDoor
open Go Go.Ab Ni Ol
instance ar222 : ArE Tryz.prog 222 4 3 1 := ⟨by kernel_rfl⟩
instance bi222 : BdI Tryz.prog 222 [.raw (.int .i64 0), .raw (.int .i64 0), .raw (.int .i64 0), .raw (.int .i64 0)] false [] 1 := ⟨by kernel_rfl⟩
instance bi28 : BdI Tryz.prog 28 [.raw (.int .i64 0), .raw (.int .i64 0), .raw (.int .i64 0)] true [(0, 1), (1, 1), (2, 1)] 0 := ⟨by kernel_rfl⟩
instance en100 : EnT Tryz.prog 100 := ⟨Ent.of Tryz.func100 (by kernel_rfl) rfl⟩
instance en129 : EnT Tryz.prog 129 := ⟨Ent.of Tryz.func129 (by kernel_rfl) rfl⟩
instance en97 : EnT Tryz.prog 97 := ⟨Ent.of Tryz.func97 (by kernel_rfl) rfl⟩
instance en98 : EnT Tryz.prog 98 := ⟨Ent.of Tryz.func98 (by kernel_rfl) rfl⟩
instance sf223 : SlS Tryz.prog 223 222 4 32 := ⟨SlFact.of (by kernel_rfl)⟩
instance sl223 : SlE Tryz.prog 223 222 4 := ⟨by kernel_rfl⟩
instance ty222 : TyF Tryz.prog 222 true 4 := ⟨by kernel_rfl⟩
instance ud5 : UnD Tryz.prog 5 (.int .u8) := ⟨Tryz.underlying5⟩
instance z222 : ZeO Tryz.prog 222 [.raw (.int .i64 0), .raw (.int .i64 0), .raw (.int .i64 0), .raw (.int .i64 0)] := ⟨by kernel_rfl⟩
theorem count_pure (ch : UInt8) (l : List (List UInt8)) (hl : l.length ≤ 1000) (hr : ∀ r ∈ l, r.length ≤ 1000) : APure Tryz.prog 100 [C ch, strs l] (I (cnt ch l)) := by
  refine apure_of (rs := [.tmp 4]) Tryz.func100 rfl rfl (Nat.le_of_ble_eq_true rfl) (by simp [AV.pureL, AV.pureB, AV.pureE, pureE_map]) (by first | rfl | (simp [AV.pureL, AV.pureB, AV.pureE, pureE_map])) fun e0 he0 => ?_
  refine W 5 ?_
  refine aw_loopk (ι := { k : Nat // k ≤ l.length }) [0, 8, 9] (fun i => [(5, I (cnt ch (l.take i.1))), (10, I i.1)]) (fun H i => H) (fun i => l.length - i.1) (⟨0, Nat.zero_le _⟩) ⟨J, J, J, J, J, trivial⟩ rfl ?_
  rintro ⟨k, hk⟩
  dsimp only [keepS, St.put, sget, slotsOf, nn1, nn2, nn3, nn4, nn5, nn6, Nat.reduceBEq, Nat.reduceAdd, nn7, nn8]
  have hb := cnt_bd ch (l.take k) 1000 (fun r h => hr r (List.mem_of_mem_take h))
  have hb2 : ((l.take k).length : Int) * (1000 : Nat) ≤ 1000000 := by rw [List.length_take]; omega
  refine W 1 ?_
  refine iff (fun c_11 c_11' => ?_) (fun c_11 c_11' => ?_)
  · skip
    have hkl : k < l.length := by omega
    have hc : l[k].count ch ≤ 1000 := Nat.le_trans List.count_le_length (hr _ (List.getElem_mem hkl))
    refine W 6 ?_
    refine sq_ev rfl (ev_buildSlice (es := [[_]]) sf92.h rfl rfl rfl rfl) ?_
    refine W 1 ?_
    refine sq_ev rfl (ev_call en148.h J (ncount1_pure _ ch) ⟨J, (Less.eq (show S ([((ch.toNat : Nat) : Int)].map fun n => UInt8.ofNat n.toNat) = S [ch] by simp)), trivial⟩) ?_
    refine W 4 ?_
    exact ⟨⟨k + 1, by omega⟩, by simp only; omega, Sub.slots ⟨(Less.eq (show I (cnt ch (l.take k) + (l[k].count ch : Int)) = _ by rw [cnt_take hkl])), J, J, J, J, trivial⟩⟩
  · skip
    obtain rfl : k = l.length := by omega
    refine W 2 ?_
    exact retQ_pure (v := .raw _) rfl rfl (Less.eq (by rw [List.take_length]))
theorem check_pure (s : Sg) : APure Tryz.prog 74 [stA s] (I (er (stOK s))) := by
 refine apure_of (rs := [.tmp 2]) Tryz.func74 rfl rfl (Nat.le_of_ble_eq_true rfl) (by simp [AV.pureL, AV.pureB, AV.pureE, pureE_map]) (by first | rfl | (simp [AV.pureL, AV.pureB, AV.pureE, pureE_map])) fun e0 he0 => ?_
 refine W 3 ?_
 refine cl A (isstage_pure _) ?_
 refine W 1 ?_
 refine aw_cond J (fun c_5 => ?_) (fun c_5 => ?_)
 ·
  have c_5' := c_5
  try simp only [qq] at c_5'
  refine W 1 ?_
  exact retQ_pure (v := .raw _) rfl rfl (Less.eq (by simp [er, *]))
 have c_5' := c_5
 try simp only [qq] at c_5'
 refine W 1 ?_
 exact retQ_pure (v := .raw _) rfl rfl (Less.eq (by simp [er, *]))
theorem shadowE_pure (c : Ca) : APure Tryz.prog 28 [stA c.s, fgA c.f, pcA c.p] (.tup [strs (if caOK c = true then c.shadow else []), I (er (caOK c))]) := by
 refine apure_of (rs := [.tmp 6, .tmp 7]) Tryz.func28 rfl rfl (Nat.le_of_ble_eq_true rfl) (by simp [AV.pureL, AV.pureB, AV.pureE, pureE_map]) (by first | rfl | (simp [AV.pureL, AV.pureB, AV.pureE, pureE_map])) fun e0 he0 => ?_
 refine W 8 ?_
 refine cl A (casting_pure c) ?_
 refine W 8 ?_
 refine aw_cond J (fun c_18 => ?_) (fun c_18 => ?_)
 ·
  have c_18' := c_18
  try simp only [qq] at c_18'
  have hok : caOK c = false := by simpa using c_18
  refine W 2 ?_
  exact retQ_pure (v := .tup [.raw _, .raw _]) rfl rfl (less_tup ⟨Less.trans (less_nil 1) (Less.eq (by rw [hok]; rfl)), less_int (by simp [er, *]), trivial⟩)
 have c_18' := c_18
 try simp only [qq] at c_18'
 have hok : caOK c = true := by simpa using c_18
 have hc := caOK_B hok
 refine W 1 ?_
 refine cl A (shadow_pure hc) ?_
 refine W 2 ?_
 exact retQ_pure (v := .tup [.sl _ _, .raw _]) rfl rfl (less_tup ⟨Less.eq (by rw [if_pos hok]), less_int (by simp [er, *]), trivial⟩)
theorem counts_pure (c : Ca) : APure Tryz.prog 33 [stA c.s, fgA c.f, pcA c.p] (.tup [I (if caOK c = true then cnt 35 c.shadow else 0), I (if caOK c = true then cnt 43 c.shadow else 0), I (er (caOK c))]) := by
 refine apure_of (rs := [.tmp 6, .tmp 7, .tmp 8]) Tryz.func33 rfl rfl (Nat.le_of_ble_eq_true rfl) (by simp [AV.pureL, AV.pureB, AV.pureE, pureE_map]) (by first | rfl | (simp [AV.pureL, AV.pureB, AV.pureE, pureE_map])) fun e0 he0 => ?_
 refine W 9 ?_
 refine cl A (casting_pure c) ?_
 refine W 8 ?_
 refine aw_cond J (fun c_20 => ?_) (fun c_20 => ?_)
 ·
  have c_20' := c_20
  try simp only [qq] at c_20'
  have hok : caOK c = false := by simpa using c_20
  refine W 3 ?_
  exact retQ_pure (v := .tup [.raw _, .raw _, .raw _]) rfl rfl (less_tup ⟨less_int (by simp [*]), less_int (by simp [*]), less_int (by simp [er, *]), trivial⟩)
 have c_20' := c_20
 try simp only [qq] at c_20'
 have hok : caOK c = true := by simpa using c_20
 have hc := caOK_B hok
 refine W 1 ?_
 refine cl A (shadow_pure hc) ?_
 refine V 1 ?_
 refine sq_nil (aw_seq ?_)
 have hs1 : c.shadow.length ≤ 1000 := by have := hc.st; rw [shad_len]; omega
 have hs2 : ∀ r ∈ c.shadow, r.length ≤ 1000 := fun r h => by obtain ⟨i, hi, rfl⟩ := List.getElem_of_mem h; have := hc.st; rw [shad_row, srow_len]; omega
 refine W 1 ?_
 refine cl A (count_pure 35 c.shadow hs1 hs2) ?_
 refine W 1 ?_
 refine cl A (count_pure 43 c.shadow hs1 hs2) ?_
 refine W 3 ?_
 exact retQ_pure (v := .tup [.raw _, .raw _, .raw _]) rfl rfl (less_tup ⟨less_int (by simp [*]), less_int (by simp [*]), less_int (by simp [er, *]), trivial⟩)
theorem fits_pure {c : Ca} (hc : CaB c) : APure Tryz.prog 129 [caA c] (B c.fits) := by
 refine apure_of (rs := [.tmp 2]) Tryz.func129 rfl rfl (Nat.le_of_ble_eq_true rfl) (by simp [AV.pureL, AV.pureB, AV.pureE, pureE_map]) (by first | rfl | (simp [AV.pureL, AV.pureB, AV.pureE, pureE_map])) fun e0 he0 => ?_
 refine V 2 ?_
 refine sq_nil (aw_seq ?_)
 obtain ⟨s1, s2, s3, s4, s5, s6⟩ := hc.st
 obtain ⟨p1, p2, p3⟩ := hc.pc
 obtain ⟨f1, f2⟩ := hc.fg
 have hw := w0_eq (f := c.f) (by omega)
 have hbl := blur_bd hc
 have hbl' : c.blur = c.s.flame * c.p.near := rfl
 have hf0 : (c.f[0]?.getD []) = c.f[0] := by rw [List.getElem?_eq_getElem (by omega)]; rfl
 refine W 8 ?_
 refine aw_draw 33 mo (by kernel_rfl) ?_
 refine WD 9 ?_
 refine dr_ev rfl (ev_index_map (k := 0) sl24.h J J rfl (by omega)) ?_
 refine WD 20 ?_
 refine dr_ev rfl (ev_buildSlice (es := [[_, _, _, _], [_, _, _, _]]) sf223.h rfl rfl rfl rfl) ?_
 refine WD 2 ?_
 refine W 0 ?_
 refine aw_loopk (ι := { k : Nat // k ≤ 2 ∧ ∀ i, i < k → c.fitK i = true }) [1, 3, 47, 48] (fun i => [(49, I i.1)]) (fun H i => H) (fun i => 2 - i.1) (⟨0, by omega, by omega⟩) ⟨J, J, J, J, J, trivial⟩ rfl ?_
 rintro ⟨k, hk, hok⟩
 dsimp only [keepS, St.put, sget, slotsOf, nn1, nn2, nn3, nn4, nn5, nn6, Nat.reduceBEq, Nat.reduceAdd, nn7, nn8]
 have hes : Less (.slx 4 [[I c.s.x, I c.p.x, I (c.f[0].length : Nat), I c.s.wide], [I c.s.y, I c.p.y, I (c.f.length : Nat), I c.s.high]]) (.sl 4 [[I (c.dA 0), I (c.dE 0), I (c.dL 0), I (c.dW 0)], [I (c.dA 1), I (c.dE 1), I (c.dL 1), I (c.dW 1)]]) := by
  refine Less.trans (less_slx _ _) (Less.eq ?_)
  simp only [Ca.dA, Ca.dE, Ca.dL, Ca.dW, hf0]
 have hdb := dK_bd hc k
 refine W 1 ?_
 refine iff (fun c_50 c_50' => ?_) (fun c_50 c_50' => ?_)
 ·
  have hk2 : k = 0 ∨ k = 1 := by omega
  have m1 := mulb (a := c.dA k) (b := c.s.far - c.p.near) (A := 16) (B := 40) (by omega) (by omega) (by omega) (by omega)
  have m2 := mulb (a := c.dE k - c.dA k) (b := c.s.far) (A := 40) (B := 40) (by omega) (by omega) (by omega) (by omega)
  have m3 := mulb (a := c.dE k + c.dL k - c.dA k) (b := c.s.far) (A := 60) (B := 40) (by omega) (by omega) (by omega) (by omega)
  have m4 := mulb (a := c.dW k) (b := c.s.far - c.p.near) (A := 16) (B := 40) (by omega) (by omega) (by omega) (by omega)
  refine W 0 ?_
  refine sq_ev rfl (ev_index (es := [[I (c.dA 0), I (c.dE 0), I (c.dL 0), I (c.dW 0)], [I (c.dA 1), I (c.dE 1), I (c.dL 1), I (c.dW 1)]]) (k := k) (c := [I (c.dA k), I (c.dE k), I (c.dL k), I (c.dW k)]) sl223.h hes J rfl (by rcases hk2 with rfl | rfl <;> rfl)) ?_
  refine W 3 ?_
  refine aw_draw 12 mo (by kernel_rfl) ?_
  refine WD 12 ?_
  refine W 0 ?_
  refine aw_draw 36 mo (by kernel_rfl) ?_
  refine WD 12 ?_
  refine dcl A (blur_pure hc) ?_
  refine WD 2 ?_
  refine dr_split 75 J (fun g6_14 => ?_) (fun g6_14 => ?_)
  ·
   have g6_14' := g6_14
   try simp only [qq] at g6_14'
   refine WD 21 ?_
   refine W 2 ?_
   exact retQ_pure (v := .raw _) rfl rfl (Less.eq (by rw [fits_bad (k := k) (by omega) (fitK_lo g6_14')]))
  have g6_14' := g6_14
  try simp only [qq] at g6_14'
  refine WD 14 ?_
  refine dcy A (blur_pure hc) ?_
  refine WD 6 ?_
  refine W 0 ?_
  refine aw_cond J (fun c_96 => ?_) (fun c_96 => ?_)
  ·
   have c_96' := c_96
   try simp only [qq] at c_96'
   refine W 1 ?_
   exact retQ_pure (v := .raw _) rfl rfl (Less.eq (by rw [fits_bad (k := k) (by omega) (fitK_hi c_96')]))
  have c_96' := c_96
  try simp only [qq] at c_96'
  refine V 2 ?_
  refine sq_nil ?_
  have hgood : c.fitK k = true := fitK_ok g6_14' c_96'
  exact ⟨⟨k + 1, by omega, fun i hi => (by by_cases e : i = k; (subst e; exact hgood); exact hok i (by omega))⟩, by simp only; omega, Sub.fin 1 ⟨J, J, J, J, J, trivial⟩ rfl (by simp [slotsIn, objsIn, sget, keepS, AObj.inB, AV.inB, AV.inL, AV.inE, inE_map, inE_ints, inE_strs, inE_figs, inE_cloths, -List.map_append, -List.map_take, -List.map_map]) (by simp [slotsIn, objsIn, sget, keepS, AObj.inB, AV.inB, AV.inL, AV.inE, inE_map, inE_ints, inE_strs, inE_figs, inE_cloths, -List.map_append, -List.map_take, -List.map_map]) (by simp [he0])⟩
 refine W 1 ?_
 exact retQ_pure (v := .raw _) rfl rfl (Less.eq (by rw [fits_ok (fun i hi => hok i (by omega))]))
theorem most_pure (c : Ca) : APure Tryz.prog 61 [stA c.s, fgA c.f, I c.p.x, I c.p.y] (.tup [I (if caOK (c.atN 0) = true then opN c.most else 0), I (if caOK (c.atN 0) = true then opE c.most else 2)]) := by
 refine apure_of (rs := [.tmp 8, .tmp 9]) Tryz.func61 rfl rfl (Nat.le_of_ble_eq_true rfl) (by simp [AV.pureL, AV.pureB, AV.pureE, pureE_map]) (by first | rfl | (simp [AV.pureL, AV.pureB, AV.pureE, pureE_map])) fun e0 he0 => ?_
 refine W 9 ?_
 refine cl A (casting_pure (c.atN 0)) ?_
 refine W 8 ?_
 refine aw_cond J (fun c_23 => ?_) (fun c_23 => ?_)
 ·
  have c_23' := c_23
  try simp only [qq] at c_23'
  have hok : caOK (c.atN 0) = false := by simpa using c_23
  refine W 2 ?_
  exact retQ_pure (v := .tup [.raw _, .raw _]) rfl rfl (less_tup ⟨less_int (by rw [if_neg (by rw [hok]; simp)]), less_int (by rw [if_neg (by rw [hok]; simp)]), trivial⟩)
 have c_23' := c_23
 try simp only [qq] at c_23'
 have hok : caOK (c.atN 0) = true := by simpa using c_23
 have hc := caOK_B hok
 have hfar : 2 ≤ c.s.far ∧ c.s.far ≤ 40 := hc.st.2.2.1
 refine W 4 ?_
 refine aw_loopk (ι := { q : Nat × Int // (q.1 : Int) ≤ c.s.far ∧ c.most = c.mostN q.1 }) [10] (fun i => [(12, I (i.1.1 - 1))]) (fun H i => H.set 2 (.cells (caC (c.atN i.1.2)))) (fun i => i.1.1) (⟨(c.s.far.toNat, 0), (by show ((c.s.far.toNat : Nat) : Int) ≤ _; omega), rfl⟩) ⟨(Less.eq (by show I (c.s.far - 1) = I ((c.s.far.toNat : Int) - 1); rw [Int.toNat_of_nonneg (by omega)])), J, trivial⟩ rfl ?_
 rintro ⟨⟨k, r⟩, hk, hm⟩
 dsimp only [keepS, St.put, sget, slotsOf, nn1, nn2, nn3, nn4, nn5, nn6, Nat.reduceBEq, Nat.reduceAdd, nn7, nn8]
 simp only at hk hm
 refine W 2 ?_
 refine iff (fun c_28 c_28' => ?_) (fun c_28 c_28' => ?_)
 ·
  obtain ⟨k, rfl⟩ : ∃ m, k = m + 1 := ⟨k - 1, by omega⟩
  have hn : CaB (c.atN (k : Int)) := ⟨hc.st, ⟨⟨by show (0 : Int) ≤ (k : Int); omega, by show (k : Int) ≤ c.s.far - 1; omega⟩, hc.pc.2⟩, hc.fg, hc.w, hc.row, hc.ok⟩
  refine V 4 ?_
  refine sq_nil (aw_seq ?_)
  have eK : ((k + 1 : Nat) : Int) - 1 = k := by omega
  simp only [eK]
  refine W 1 ?_
  refine cl A (fits_pure hn) ?_
  refine W 0 ?_
  refine aw_cond J (fun c_35 => ?_) (fun c_35 => ?_)
  ·
   have c_35' := c_35
   try simp only [qq] at c_35'
   have hm2 : c.most = some k := by rw [hm]; show (if (c.atN (k : Nat)).fits = true then some k else c.mostN k) = _; rw [if_pos c_35]
   refine W 3 ?_
   exact retQ_pure (v := .tup [.raw _, .raw _]) rfl rfl (less_tup ⟨less_int (by rw [if_pos hok, hm2]; simp [opN]), less_int (by rw [if_pos hok, hm2]; rfl), trivial⟩)
  have c_35' := c_35
  try simp only [qq] at c_35'
  have hm2 : c.most = c.mostN k := by rw [hm]; show (if (c.atN (k : Nat)).fits = true then some k else c.mostN k) = _; rw [if_neg (by rw [c_35]; simp)]
  refine W 3 ?_
  exact ⟨⟨(k, (k : Int)), by omega, hm2⟩, by simp only; omega, Sub.fin 3 ⟨J, J, trivial⟩ rfl (by simp [slotsIn, objsIn, sget, keepS, AObj.inB, AV.inB, AV.inL, AV.inE, inE_map, inE_ints, inE_strs, inE_figs, inE_cloths, -List.map_append, -List.map_take, -List.map_map]) (by simp [slotsIn, objsIn, sget, keepS, AObj.inB, AV.inB, AV.inL, AV.inE, inE_map, inE_ints, inE_strs, inE_figs, inE_cloths, -List.map_append, -List.map_take, -List.map_map]) (by simp [he0])⟩
 obtain rfl : k = 0 := by omega
 refine W 2 ?_
 exact retQ_pure (v := .tup [.raw _, .raw _]) rfl rfl (less_tup ⟨less_int (by rw [if_pos hok, hm]; rfl), less_int (by rw [if_pos hok, hm]; rfl), trivial⟩)
theorem fades_pure (c : Ca) : APure Tryz.prog 62 [stA c.s, fgA c.f, I c.p.x, I c.p.y] (.tup [I (if caOK (c.atN 0) = true then opN c.fades else 0), I (if caOK (c.atN 0) = true then opE c.fades else 2)]) := by
 refine apure_of (rs := [.tmp 8, .tmp 9]) Tryz.func62 rfl rfl (Nat.le_of_ble_eq_true rfl) (by simp [AV.pureL, AV.pureB, AV.pureE, pureE_map]) (by first | rfl | (simp [AV.pureL, AV.pureB, AV.pureE, pureE_map])) fun e0 he0 => ?_
 refine W 9 ?_
 refine cl A (casting_pure (c.atN 0)) ?_
 refine W 8 ?_
 refine aw_cond J (fun c_23 => ?_) (fun c_23 => ?_)
 ·
  have c_23' := c_23
  try simp only [qq] at c_23'
  have hok : caOK (c.atN 0) = false := by simpa using c_23
  refine W 2 ?_
  exact retQ_pure (v := .tup [.raw _, .raw _]) rfl rfl (less_tup ⟨less_int (by rw [if_neg (by rw [hok]; simp)]), less_int (by rw [if_neg (by rw [hok]; simp)]), trivial⟩)
 have c_23' := c_23
 try simp only [qq] at c_23'
 have hok : caOK (c.atN 0) = true := by simpa using c_23
 have hc := caOK_B hok
 have hfar : 2 ≤ c.s.far ∧ c.s.far ≤ 40 := hc.st.2.2.1
 refine W 3 ?_
 refine aw_loopk (ι := { q : Nat × Int // q.1 ≤ c.s.far.toNat ∧ ∀ i, i < q.1 → c.fadeB i = false }) [10, 25] (fun i => [(26, I (i.1.1 : Nat))]) (fun H i => H.set 2 (.cells (caC (c.atN i.1.2)))) (fun i => c.s.far.toNat - i.1.1) (⟨(0, 0), (by simp only; omega), (by simp only; omega)⟩) ⟨J, J, J, trivial⟩ rfl ?_
 rintro ⟨⟨k, r⟩, hk, hm⟩
 dsimp only [keepS, St.put, sget, slotsOf, nn1, nn2, nn3, nn4, nn5, nn6, Nat.reduceBEq, Nat.reduceAdd, nn7, nn8]
 simp only at hk hm
 refine W 1 ?_
 refine iff (fun c_27 c_27' => ?_) (fun c_27 c_27' => ?_)
 ·
  have hn : CaB (c.atN (k : Int)) := ⟨hc.st, ⟨⟨by show (0 : Int) ≤ (k : Int); omega, by show (k : Int) ≤ c.s.far - 1; omega⟩, hc.pc.2⟩, hc.fg, hc.w, hc.row, hc.ok⟩
  have hs1 : (c.atN (k : Nat)).shadow.length ≤ 1000 := by have := hn.st; rw [shad_len]; omega
  have hs2 : ∀ r ∈ (c.atN (k : Nat)).shadow, r.length ≤ 1000 := fun r h => by obtain ⟨i, hi, rfl⟩ := List.getElem_of_mem h; have := hn.st; rw [shad_row, srow_len]; omega
  refine W 7 ?_
  refine cl A (shadow_pure hn) ?_
  refine cl A (count_pure 35 (c.atN (k : Nat)).shadow hs1 hs2) ?_
  refine W 1 ?_
  refine iff (fun c_35 c_35' => ?_) (fun c_35 c_35' => ?_)
  ·
   have hm2 : c.fades = some k := fades_some (by omega) c_35 hm
   refine W 3 ?_
   exact retQ_pure (v := .tup [.raw _, .raw _]) rfl rfl (less_tup ⟨less_int (by rw [if_pos hok, hm2]; simp [opN]), less_int (by rw [if_pos hok, hm2]; rfl), trivial⟩)
  have hm2 : c.fadeB k = false := c_35
  refine W 2 ?_
  exact ⟨⟨(k + 1, (k : Int)), by simp only; omega, fun i hi => (by simp only at hi; by_cases e : i = k; (subst e; exact hm2); exact hm i (by omega))⟩, by simp only; omega, Sub.fin 3 ⟨J, J, J, trivial⟩ rfl (by simp [slotsIn, objsIn, sget, keepS, AObj.inB, AV.inB, AV.inL, AV.inE, inE_map, inE_ints, inE_strs, inE_figs, inE_cloths, -List.map_append, -List.map_take, -List.map_map]) (by simp [slotsIn, objsIn, sget, keepS, AObj.inB, AV.inB, AV.inL, AV.inE, inE_map, inE_ints, inE_strs, inE_figs, inE_cloths, -List.map_append, -List.map_take, -List.map_map]) (by simp [he0])⟩
 have hm2 : c.fades = none := fades_none (fun i hi => hm i (by omega))
 refine W 2 ?_
 exact retQ_pure (v := .tup [.raw _, .raw _]) rfl rfl (less_tup ⟨less_int (by rw [if_pos hok, hm2]; rfl), less_int (by rw [if_pos hok, hm2]; rfl), trivial⟩)
end Go.Proofs.YtmbknoaneglilaaGreatDoor
