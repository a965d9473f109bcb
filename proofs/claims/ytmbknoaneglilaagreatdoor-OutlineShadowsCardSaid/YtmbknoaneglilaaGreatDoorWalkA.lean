/-
  A part of the proof: conditions: none beyond each theorem's own.
-/
import Derived.Test.YtmbknoaneglilaaGreatDoorLogicD
import Derived.Test.YtmbknoaneglilaaGreatDoorSpecA
import Derived.KernelRfl
import Derived.Lib.LaidTab
import Derived.Lib.ItoaNum
import Derived.Test.YtmbknoaneglilaaGreatDoorProg
set_option linter.all false
set_option maxHeartbeats 8000000
namespace Go.Proofs.YtmbknoaneglilaaGreatDoor
open Go Go.Ab Ni Ol
theorem lr [Tabs] (a : AV) : Less a a := Less.rfl' a
theorem J [Tabs] {a : AV} : Less a a := Less.rfl' a
theorem qq : (∀ (p : Prop) [Decidable p], (decide p = true) = p) ∧ (∀ (p : Prop) [Decidable p], decide p = false ↔ ¬p) ∧ (∀ b : Bool, ((!b) = true) = (b = false)) ∧ (∀ b : Bool, ((!b) = false) = (b = true)) ∧ (∀ a b : Bool, ((a && b) = true) = (a = true ∧ b = true)) ∧ (∀ a b : Bool, ((a || b) = true) = (a = true ∨ b = true)) ∧ (∀ a b : Bool, (a && b) = false ↔ a = false ∨ b = false) ∧ (∀ a b : Bool, (a || b) = false ↔ a = false ∧ b = false) ∧ (!true) = false ∧ (!false) = true ∧ (∀ {α β : Type} (f : α → β) (l : List α), (l.map f).length = l.length) ∧ (∀ {α : Type} (a b : α), (a ≠ b) = ¬(a = b)) ∧ (∀ (p : Prop) [Decidable p], ¬¬p ↔ p) :=
  ⟨fun p _ => decide_eq_true_eq, fun p _ => decide_eq_false_iff_not, fun b => Bool.not_eq_true' b, fun b => Bool.not_eq_false' b, fun a b => Bool.and_eq_true a b, fun a b => Bool.or_eq_true a b, fun _ _ => Bool.and_eq_false_iff, fun _ _ => Bool.or_eq_false_iff, rfl, rfl, fun f l => List.length_map f, fun _ _ => rfl, fun p _ => Decidable.not_not⟩
theorem mvr [Tabs] {c : Ctx} {ops : Array Oper} {Q : AExit → St → Prop} {i : Nat} {rest : List Oper} {s : St} {d : Option Tmp} {x : Operand} {t : TypeId} {p : String} {af : Array Edge} {v : Value} (h : Less (s.op x) (.raw v)) (hd : dOK c.nt d = true) (k : SeqWP c ops Q (i + 1) rest (s.put d (.raw v))) : SeqWP c ops Q i (⟨d, .move x, t, p, af, none⟩ :: rest) s := sq_ev hd (ev_mv h) k
theorem asr [Tabs] {c : Ctx} {ops : Array Oper} {Q : AExit → St → Prop} {i : Nat} {rest : List Oper} {s : St} {d : Option Tmp} {x : Operand} {t : TypeId} {p : String} {af : Array Edge} {v : Value} (h : Less (s.op x) (.raw v)) (hd : dOK c.nt d = true) (k : SeqWP c ops Q (i + 1) rest (s.put d (.raw v))) : SeqWP c ops Q i (⟨d, .assign x, t, p, af, none⟩ :: rest) s := sq_ev hd (ev_as h) k
theorem nn1 {α β : Type} {f : α → β} {a : α} {l : List α} : (a :: l).map f = f a :: l.map f := rfl
theorem nn2 {α β : Type} {f : α → β} : ([] : List α).map f = [] := rfl
theorem nn3 {α : Type} {a : α} {l m : List α} : (a :: l) ++ m = a :: (l ++ m) := rfl
theorem nn4 {α : Type} (l : List α) : [] ++ l = l := rfl
theorem nn5 {α : Type} {a : α} {l : List α} : (a :: l).length = l.length + 1 := rfl
theorem nn6 {α : Type} : ([] : List α).length = 0 := rfl
theorem nn7 {α : Type} (a b : α) : cond true a b = a := rfl
theorem nn8 {α : Type} (a b : α) : cond false a b = b := rfl
section
variable [Tabs] {c : Ctx} {ops : Array Oper} {Q : AExit → St → Prop} {i : Nat} {rest : List Oper} {s : St} {d : Option Tmp} {x y z : Operand} {t : TypeId} {p : String} {af : Array Edge} {v : Value} {j u n : Nat} {want : Bool} {l : List (List AV)}
theorem pf (hd : dOK c.nt d = true) (hx : Less (s.op x) (.raw (.bool false))) (h : Less (s.op z) (.raw v)) (k : SeqWP c ops Q (i + 1) rest (s.put d (.raw v))) : SeqWP c ops Q i (⟨d, .pick x y z, t, p, af, none⟩ :: rest) s := sq_ev hd (ev_pickF hx h) k
theorem ysl (hj : gslot ops j = some u) (ht : Nat.blt u c.nt = true) (hb : Less (sget s.sl u) (.raw (.bool want))) (hd : dOK c.nt d = true) (h : Less (s.op x) (.sl n l)) (k : SeqWP c ops Q (i + 1) rest (s.put d (.sl n l))) : SeqWP c ops Q i (⟨d, .move x, t, p, af, some (j, want)⟩ :: rest) s := sq_yes hj ht hb hd (ev_mv h) k
theorem xtr {m : List AV} {w : AV} (hd : dOK c.nt d = true) (hx : Less (s.op x) (.tup m)) (hv : m[n]? = some w) (k : SeqWP c ops Q (i + 1) rest (s.put d w)) : SeqWP c ops Q i (⟨d, .extract x n, t, p, af, none⟩ :: rest) s := sq_ev hd (ev_extract hx hv) k
theorem mvs (hd : dOK c.nt d = true) (h : Less (s.op x) (.sl n l)) (k : SeqWP c ops Q (i + 1) rest (s.put d (.sl n l))) : SeqWP c ops Q i (⟨d, .move x, t, p, af, none⟩ :: rest) s := sq_ev hd (ev_mv h) k
theorem ass (hd : dOK c.nt d = true) (h : Less (s.op x) (.sl n l)) (k : SeqWP c ops Q (i + 1) rest (s.put d (.sl n l))) : SeqWP c ops Q i (⟨d, .assign x, t, p, af, none⟩ :: rest) s := sq_ev hd (ev_as h) k
theorem ymr (hj : gslot ops j = some u) (ht : Nat.blt u c.nt = true) (hb : Less (sget s.sl u) (.raw (.bool want))) (hd : dOK c.nt d = true) (h : Less (s.op x) (.raw v)) (k : SeqWP c ops Q (i + 1) rest (s.put d (.raw v))) : SeqWP c ops Q i (⟨d, .move x, t, p, af, some (j, want)⟩ :: rest) s := sq_yes hj ht hb hd (ev_mv h) k
end
instance tabs : Tabs where
  blk b := Tryz.prog.globalNamed "internal/bytealg.MaxLen" = some b ∨ Tryz.prog.globalNamed "internal/strconv.uint64pow10" = some b
  is w := (∃ b m, Tryz.prog.globalNamed "internal/bytealg.MaxLen" = some b ∧ w.cell? ⟨b, 0, none⟩ = some (.int .i64 m)) ∧ Lib.TabIs Tryz.prog w "internal/strconv.uint64pow10" .u64 Lib.pow10Tab
  mono h k := ⟨by obtain ⟨b, m, hb, hm⟩ := k.1; exact ⟨b, m, hb, by have e := h b (.inl hb); unfold World.cell? at hm ⊢; simp only [e]; exact hm⟩, by
    have k2 := k.2
    unfold Lib.TabIs World.var? at k2 ⊢
    cases hg : Tryz.prog.globalNamed "internal/strconv.uint64pow10" with
    | none => rw [hg] at k2; exact k2
    | some g => rw [hg] at k2; simp only [Option.bind_some] at k2 ⊢; rw [h g (.inr hg)]; exact k2⟩
abbrev I (n : Int) : AV := .raw (.int .i64 n)
abbrev B (b : Bool) : AV := .raw (.bool b)
abbrev C (c : UInt8) : AV := .raw (.int .u8 c.toNat)
abbrev ints (l : List Int) : AV := .sl 1 (l.map fun x => [I x])
abbrev strs (l : List (List UInt8)) : AV := .sl 1 (l.map fun x => [S x])
abbrev stC (s : Sg) : List AV := [I s.wide, I s.high, I s.far, I s.flame, I s.x, I s.y]
abbrev stA (s : Sg) : AV := .agg (stC s)
abbrev fgA (f : Fg) : AV := .agg [strs f]
abbrev pcC (p : Pc) : List AV := [I p.near, I p.x, I p.y]
abbrev pcA (p : Pc) : AV := .agg (pcC p)
abbrev caC (c : Ca) : List AV := [I c.s.wide, I c.s.high, I c.s.far, I c.s.flame, I c.s.x, I c.s.y, strs c.f, I c.p.near, I c.p.x, I c.p.y]
abbrev caA (c : Ca) : AV := .agg (caC c)
abbrev figs (l : List Fg) : AV := .sl 1 (l.map fun f => [strs f])
abbrev rcC (r : Rc) : List AV := [I r.nl, I r.nh, I r.xl, I r.xh, I r.y]
abbrev rcA (r : Rc) : AV := .agg (rcC r)
abbrev snC (x : Sn) : List AV := [I x.s.wide, I x.s.high, I x.s.far, I x.s.flame, I x.s.x, I x.s.y, figs x.l, I x.r.nl, I x.r.nh, I x.r.xl, I x.r.xh, I x.r.y]
abbrev snA (x : Sn) : AV := .agg (snC x)
abbrev thC (t : Th) : List AV := [I t.rd.fig, I t.rd.p.near, I t.rd.p.x, I t.rd.p.y, strs t.sh]
theorem wr {n : Int} (h1 : -9223372036854775808 ≤ n) (h2 : n ≤ 9223372036854775807) : IntKind.i64.wrap n = n := IntWalk.i64_in _ ⟨h1, h2⟩
theorem wr32 {n : Int} (h1 : -2147483648 ≤ n) (h2 : n ≤ 2147483647) : IntKind.i32.wrap n = n := IntWalk.i32_in _ ⟨h1, h2⟩
theorem wr8 {n : Int} (h1 : 0 ≤ n) (h2 : n ≤ 255) : IntKind.u8.wrap n = n := IntWalk.u8_in _ ⟨h1, h2⟩
theorem decode_cases {w : List UInt8} {k : Nat} (h : k < w.length) : ((w[k]).toNat < 128 ∧ Utf8.decode ⟨w.toArray⟩ k = ((w[k]).toNat, 1)) ∨ (128 ≤ (w[k]).toNat ∧ 128 ≤ (Utf8.decode ⟨w.toArray⟩ k).1) := by
  have hk : k < (⟨w.toArray⟩ : ByteArray).size := by simp [ByteArray.size]; exact h
  have e : (⟨w.toArray⟩ : ByteArray)[k] = w[k] := rfl
  rcases Nat.lt_or_ge (w[k]).toNat 128 with ha | ha
  · exact .inl ⟨ha, by rw [decode_ascii _ _ hk (by rw [e]; exact ha), e]⟩
  · exact .inr ⟨ha, (decode_high _ _ hk (by rw [e]; exact ha)).1⟩
theorem ch_dec {w : List UInt8} {k : Nat} (h : k < w.length) (hc : (Utf8.decode ⟨w.toArray⟩ k).1 = 35 ∨ (Utf8.decode ⟨w.toArray⟩ k).1 = 46) : Utf8.decode ⟨w.toArray⟩ k = ((w[k]).toNat, 1) ∧ chOK w[k] = true := by
  rcases decode_cases h with ⟨_, e⟩ | ⟨_, e⟩
  · refine ⟨e, ?_⟩
    rw [e] at hc
    simp only at hc
    unfold chOK
    simp only [decide_eq_true_eq]
    exact hc.imp (fun h => UInt8.toNat_inj.1 h) (fun h => UInt8.toNat_inj.1 h)
  · omega
theorem dec35 {c : UInt8} : decide (((c.toNat : Nat) : Int) = 35) = decide (c = 35) := by
  refine decide_eq_decide.2 ⟨fun h => UInt8.toNat_inj.1 (by show c.toNat = 35; omega), fun h => by rw [h]; rfl⟩
theorem ch_bad {w : List UInt8} {k : Nat} (h : k < w.length) (hc : ¬ ((Utf8.decode ⟨w.toArray⟩ k).1 = 35 ∨ (Utf8.decode ⟨w.toArray⟩ k).1 = 46)) : chOK w[k] = false := by
  rw [Bool.eq_false_iff]
  intro ho
  unfold chOK at ho
  simp only [decide_eq_true_eq] at ho
  apply hc
  have hlt : (w[k]).toNat < 128 := by rcases ho with h | h <;> (rw [h]; decide)
  rcases decode_cases h with ⟨_, e⟩ | ⟨e1, _⟩
  · rw [e]; exact ho.imp (fun h => by rw [h]; rfl) (fun h => by rw [h]; rfl)
  · omega
theorem en117 : Ent Tryz.prog 117 := Ent.of Tryz.func117 (by kernel_rfl) rfl
theorem en171 : Ent Tryz.prog 171 := Ent.of Tryz.func171 (by kernel_rfl) rfl
theorem fo23_0 : fOff Tryz.prog 23 0 = some (0, 3) := by kernel_rfl
theorem fo23_1 : fOff Tryz.prog 23 1 = some (1, 3) := by kernel_rfl
theorem fo23_2 : fOff Tryz.prog 23 2 = some (2, 3) := by kernel_rfl
theorem fo23_3 : fOff Tryz.prog 23 3 = some (3, 3) := by kernel_rfl
theorem fo23_4 : fOff Tryz.prog 23 4 = some (4, 3) := by kernel_rfl
theorem fo23_5 : fOff Tryz.prog 23 5 = some (5, 3) := by kernel_rfl
theorem fo26_0 : fOff Tryz.prog 26 0 = some (0, 24) := by kernel_rfl
theorem fo28_0 : fOff Tryz.prog 28 0 = some (0, 3) := by kernel_rfl
theorem fo28_1 : fOff Tryz.prog 28 1 = some (1, 3) := by kernel_rfl
theorem fo28_2 : fOff Tryz.prog 28 2 = some (2, 3) := by kernel_rfl
theorem sl24 : slElem Tryz.prog 24 = some (9, 1) := by kernel_rfl
theorem ty24 : tySz Tryz.prog 24 = some (false, 1) := by kernel_rfl
theorem ty3 : tySz Tryz.prog 3 = some (false, 1) := by kernel_rfl
theorem ty9 : tySz Tryz.prog 9 = some (false, 1) := by kernel_rfl
theorem in_pure (n lo hi : Int) : APure Tryz.prog 117 [I n, I lo, I hi] (B (inn n lo hi)) := by
 refine apure_of (rs := [.tmp 6]) Tryz.func117 rfl rfl (Nat.le_of_ble_eq_true rfl) (by simp [AV.pureL, AV.pureB, AV.pureE, pureE_map]) (by first | rfl | (simp [AV.pureL, AV.pureB, AV.pureE, pureE_map])) fun e0 he0 => ?_
 refine aw_seq (aw_region ?_)
 refine asr J rfl (sq_nil (aw_seq (aw_region (mvr J rfl (mvr J rfl (sq_ev rfl (ev_geq J J) ?_))))))
 refine mvr J rfl ?_
 refine sq_split 10 J (fun g1 => ?_) (fun g1 => ?_)
 ·
  have g1' := g1
  try simp only [qq] at g1'
  refine sq_yes rfl rfl (less_b g1) rfl (ev_mv (v := .raw _) J) ?_
  refine sq_yes rfl rfl (less_b g1) rfl (ev_mv (v := .raw _) J) ?_
  refine sq_yes rfl rfl (less_b g1) rfl (ev_leq J J) ?_
  refine sq_ev rfl (ev_pickT (v := .raw _) (less_b g1) J) ?_
  refine asr J rfl (sq_nil (aw_ret ?_))
  exact retQ_pure (v := .raw _) rfl rfl (Less.eq (by simp [inn, *]))
 have g1' := g1
 try simp only [qq] at g1'
 refine sq_no rfl rfl (less_b g1) rfl rfl ?_
 refine sq_no rfl rfl (less_b g1) rfl rfl ?_
 refine sq_no rfl rfl (less_b g1) rfl rfl ?_
 refine sq_ev rfl (ev_pickF (v := .raw _) (less_b g1) J) ?_
 refine asr J rfl (sq_nil (aw_ret ?_))
 exact retQ_pure (v := .raw _) rfl rfl (Less.eq (by simp [inn, *]))
theorem isstage_pure (s : Sg) : APure Tryz.prog 137 [stA s] (B (stOK s)) := by
 refine apure_of (rs := [.tmp 2]) Tryz.func137 rfl rfl (Nat.le_of_ble_eq_true rfl) (by simp [AV.pureL, AV.pureB, AV.pureE, pureE_map]) (by first | rfl | (simp [AV.pureL, AV.pureB, AV.pureE, pureE_map])) fun e0 he0 => ?_
 refine aw_seq (aw_region (sq_box rfl J rfl (asr J rfl (sq_nil (aw_seq (aw_region (sq_ev rfl (ev_fieldAddr fo23_0 J) ?_)))))))
 refine sq_ev rfl (ev_load J rfl ty3 rfl) ?_
 refine sq_ev rfl (ev_call en117 J (in_pure _ _ _) ⟨J, J, J, trivial⟩) ?_
 refine mvr J rfl ?_
 refine sq_split 6 J (fun g1 => ?_) (fun g1 => ?_)
 ·
  have g1' := g1
  try simp only [qq] at g1'
  refine sq_yes rfl rfl (less_b g1) rfl (ev_fieldAddr fo23_1 J) ?_
  refine sq_yes rfl rfl (less_b g1) rfl (ev_load J rfl ty3 rfl) ?_
  refine sq_yes rfl rfl (less_b g1) rfl (ev_call en117 J (in_pure _ _ _) ⟨J, J, J, trivial⟩) ?_
  refine sq_ev rfl (ev_pickT (v := .raw _) (less_b g1) J) ?_
  refine mvr J rfl ?_
  refine sq_split 11 J (fun g2 => ?_) (fun g2 => ?_)
  ·
   have g2' := g2
   try simp only [qq] at g2'
   refine sq_yes rfl rfl (less_b g2) rfl (ev_fieldAddr fo23_2 J) ?_
   refine sq_yes rfl rfl (less_b g2) rfl (ev_load J rfl ty3 rfl) ?_
   refine sq_yes rfl rfl (less_b g2) rfl (ev_call en117 J (in_pure _ _ _) ⟨J, J, J, trivial⟩) ?_
   refine sq_ev rfl (ev_pickT (v := .raw _) (less_b g2) J) ?_
   refine mvr J rfl ?_
   refine sq_split 16 J (fun g3 => ?_) (fun g3 => ?_)
   ·
    have g3' := g3
    try simp only [qq] at g3'
    refine sq_yes rfl rfl (less_b g3) rfl (ev_fieldAddr fo23_3 J) ?_
    refine sq_yes rfl rfl (less_b g3) rfl (ev_load J rfl ty3 rfl) ?_
    refine sq_yes rfl rfl (less_b g3) rfl (ev_call en117 J (in_pure _ _ _) ⟨J, J, J, trivial⟩) ?_
    refine sq_ev rfl (ev_pickT (v := .raw _) (less_b g3) J) ?_
    refine mvr J rfl ?_
    refine sq_split 21 J (fun g4 => ?_) (fun g4 => ?_)
    ·
     have g4' := g4
     try simp only [qq] at g4'
     refine sq_yes rfl rfl (less_b g4) rfl (ev_fieldAddr fo23_4 J) ?_
     refine sq_yes rfl rfl (less_b g4) rfl (ev_load J rfl ty3 rfl) ?_
     refine sq_yes rfl rfl (less_b g4) rfl (ev_fieldAddr fo23_0 J) ?_
     refine sq_yes rfl rfl (less_b g4) rfl (ev_load J rfl ty3 rfl) ?_
     refine sq_yes rfl rfl (less_b g4) rfl (ev_call en117 J (in_pure _ _ _) ⟨J, J, J, trivial⟩) ?_
     refine sq_ev rfl (ev_pickT (v := .raw _) (less_b g4) J) ?_
     refine mvr J rfl ?_
     refine sq_split 28 J (fun g5 => ?_) (fun g5 => ?_)
     ·
      have g5' := g5
      try simp only [qq] at g5'
      refine sq_yes rfl rfl (less_b g5) rfl (ev_fieldAddr fo23_5 J) ?_
      refine sq_yes rfl rfl (less_b g5) rfl (ev_load J rfl ty3 rfl) ?_
      refine sq_yes rfl rfl (less_b g5) rfl (ev_fieldAddr fo23_1 J) ?_
      refine sq_yes rfl rfl (less_b g5) rfl (ev_load J rfl ty3 rfl) ?_
      refine sq_yes rfl rfl (less_b g5) rfl (ev_call en117 J (in_pure _ _ _) ⟨J, J, J, trivial⟩) ?_
      refine sq_ev rfl (ev_pickT (v := .raw _) (less_b g5) J) ?_
      refine asr J rfl (sq_nil (aw_ret ?_))
      exact retQ_pure (v := .raw _) rfl rfl (Less.eq (by simp [stOK, *]))
     have g5' := g5
     try simp only [qq] at g5'
     refine sq_no rfl rfl (less_b g5) rfl rfl ?_
     refine sq_no rfl rfl (less_b g5) rfl rfl ?_
     refine sq_no rfl rfl (less_b g5) rfl rfl ?_
     refine sq_no rfl rfl (less_b g5) rfl rfl ?_
     refine sq_no rfl rfl (less_b g5) rfl rfl ?_
     refine sq_ev rfl (ev_pickF (v := .raw _) (less_b g5) J) ?_
     refine asr J rfl (sq_nil (aw_ret ?_))
     exact retQ_pure (v := .raw _) rfl rfl (Less.eq (by simp [stOK, *]))
    have g4' := g4
    try simp only [qq] at g4'
    refine sq_no rfl rfl (less_b g4) rfl rfl ?_
    refine sq_no rfl rfl (less_b g4) rfl rfl ?_
    refine sq_no rfl rfl (less_b g4) rfl rfl ?_
    refine sq_no rfl rfl (less_b g4) rfl rfl ?_
    refine sq_no rfl rfl (less_b g4) rfl rfl ?_
    refine sq_ev rfl (ev_pickF (v := .raw _) (less_b g4) J) ?_
    refine mvr J rfl (sq_no rfl rfl J rfl rfl (sq_no rfl rfl J rfl rfl ?_))
    refine sq_no rfl rfl J rfl rfl (sq_no rfl rfl J rfl rfl (sq_no rfl rfl J rfl rfl (pf rfl J J (asr J rfl (sq_nil (aw_ret ?_))))))
    exact retQ_pure (v := .raw _) rfl rfl (Less.eq (by simp [stOK, *]))
   have g3' := g3
   try simp only [qq] at g3'
   refine sq_no rfl rfl (less_b g3) rfl rfl ?_
   refine sq_no rfl rfl (less_b g3) rfl rfl ?_
   refine sq_no rfl rfl (less_b g3) rfl rfl ?_
   refine sq_ev rfl (ev_pickF (v := .raw _) (less_b g3) J) ?_
   refine mvr J rfl (sq_no rfl rfl J rfl rfl (sq_no rfl rfl J rfl rfl ?_))
   refine sq_no rfl rfl J rfl rfl (sq_no rfl rfl J rfl rfl (sq_no rfl rfl J rfl rfl (pf rfl J J (mvr J rfl (sq_no rfl rfl J rfl rfl (sq_no rfl rfl J rfl rfl ?_))))))
   refine sq_no rfl rfl J rfl rfl (sq_no rfl rfl J rfl rfl (sq_no rfl rfl J rfl rfl (pf rfl J J (asr J rfl (sq_nil (aw_ret ?_))))))
   exact retQ_pure (v := .raw _) rfl rfl (Less.eq (by simp [stOK, *]))
  have g2' := g2
  try simp only [qq] at g2'
  refine sq_no rfl rfl (less_b g2) rfl rfl ?_
  refine sq_no rfl rfl (less_b g2) rfl rfl ?_
  refine sq_no rfl rfl (less_b g2) rfl rfl ?_
  refine sq_ev rfl (ev_pickF (v := .raw _) (less_b g2) J) ?_
  refine mvr J rfl ?_
  refine sq_no rfl rfl J rfl rfl (sq_no rfl rfl J rfl rfl (sq_no rfl rfl J rfl rfl (pf rfl J J (mvr J rfl (sq_no rfl rfl J rfl rfl (sq_no rfl rfl J rfl rfl ?_))))))
  refine sq_no rfl rfl J rfl rfl (sq_no rfl rfl J rfl rfl (sq_no rfl rfl J rfl rfl (pf rfl J J (mvr J rfl (sq_no rfl rfl J rfl rfl (sq_no rfl rfl J rfl rfl ?_))))))
  refine sq_no rfl rfl J rfl rfl (sq_no rfl rfl J rfl rfl (sq_no rfl rfl J rfl rfl (pf rfl J J (asr J rfl (sq_nil (aw_ret ?_))))))
  exact retQ_pure (v := .raw _) rfl rfl (Less.eq (by simp [stOK, *]))
 have g1' := g1
 try simp only [qq] at g1'
 refine sq_no rfl rfl (less_b g1) rfl rfl ?_
 refine sq_no rfl rfl (less_b g1) rfl rfl ?_
 refine sq_no rfl rfl (less_b g1) rfl rfl ?_
 refine sq_ev rfl (ev_pickF (v := .raw _) (less_b g1) J) ?_
 refine mvr J rfl (sq_no rfl rfl J rfl rfl (sq_no rfl rfl J rfl rfl (sq_no rfl rfl J rfl rfl (pf rfl J J (mvr J rfl ?_)))))
 refine sq_no rfl rfl J rfl rfl (sq_no rfl rfl J rfl rfl (sq_no rfl rfl J rfl rfl (pf rfl J J (mvr J rfl (sq_no rfl rfl J rfl rfl (sq_no rfl rfl J rfl rfl ?_))))))
 refine sq_no rfl rfl J rfl rfl (sq_no rfl rfl J rfl rfl (sq_no rfl rfl J rfl rfl (pf rfl J J (mvr J rfl (sq_no rfl rfl J rfl rfl (sq_no rfl rfl J rfl rfl ?_))))))
 refine sq_no rfl rfl J rfl rfl (sq_no rfl rfl J rfl rfl (sq_no rfl rfl J rfl rfl (pf rfl J J (asr J rfl (sq_nil (aw_ret ?_))))))
 exact retQ_pure (v := .raw _) rfl rfl (Less.eq (by simp [stOK, *]))
theorem isaway_pure (n : Int) : APure Tryz.prog 171 [I n] (B (awayOK n)) := by
 refine apure_of (rs := [.tmp 2]) Tryz.func171 rfl rfl (Nat.le_of_ble_eq_true rfl) (by simp [AV.pureL, AV.pureB, AV.pureE, pureE_map]) (by first | rfl | (simp [AV.pureL, AV.pureB, AV.pureE, pureE_map])) fun e0 he0 => ?_
 refine aw_seq (aw_region (asr J rfl (sq_nil (aw_seq (aw_region (mvr J rfl (sq_ev rfl (ev_call en117 J (in_pure _ _ _) ⟨J, J, J, trivial⟩) ?_)))))))
 refine asr J rfl (sq_nil (aw_ret ?_))
 exact retQ_pure (v := .raw _) rfl rfl J
theorem isplace_pure (s : Sg) (p : Pc) (h : 2 ≤ s.far ∧ s.far ≤ 40) : APure Tryz.prog 146 [stA s, pcA p] (B (pcOK s p)) := by
 refine apure_of (rs := [.tmp 4]) Tryz.func146 rfl rfl (Nat.le_of_ble_eq_true rfl) (by simp [AV.pureL, AV.pureB, AV.pureE, pureE_map]) (by first | rfl | (simp [AV.pureL, AV.pureB, AV.pureE, pureE_map])) fun e0 he0 => ?_
 refine aw_seq (aw_region ?_)
 refine sq_box rfl J rfl (sq_box rfl J rfl (asr J rfl (sq_nil (aw_seq (aw_region (sq_ev rfl (ev_fieldAddr fo28_0 J) ?_))))))
 refine sq_ev rfl (ev_load J rfl ty3 rfl) ?_
 refine sq_ev rfl (ev_fieldAddr fo23_2 J) ?_
 refine sq_ev rfl (ev_load J rfl ty3 rfl) ?_
 refine sq_ev rfl (ev_sub J J (wr (by omega) (by omega))) ?_
 refine sq_ev rfl (ev_call en117 J (in_pure _ _ _) ⟨J, J, J, trivial⟩) ?_
 refine mvr J rfl ?_
 refine sq_split 11 J (fun g1 => ?_) (fun g1 => ?_)
 ·
  have g1' := g1
  try simp only [qq] at g1'
  refine sq_yes rfl rfl (less_b g1) rfl (ev_fieldAddr fo28_1 J) ?_
  refine sq_yes rfl rfl (less_b g1) rfl (ev_load J rfl ty3 rfl) ?_
  refine sq_yes rfl rfl (less_b g1) rfl (ev_call en171 J (isaway_pure _) ⟨J, trivial⟩) ?_
  refine sq_ev rfl (ev_pickT (v := .raw _) (less_b g1) J) ?_
  refine mvr J rfl ?_
  refine sq_split 16 J (fun g2 => ?_) (fun g2 => ?_)
  ·
   have g2' := g2
   try simp only [qq] at g2'
   refine sq_yes rfl rfl (less_b g2) rfl (ev_fieldAddr fo28_2 J) ?_
   refine sq_yes rfl rfl (less_b g2) rfl (ev_load J rfl ty3 rfl) ?_
   refine sq_yes rfl rfl (less_b g2) rfl (ev_call en171 J (isaway_pure _) ⟨J, trivial⟩) ?_
   refine sq_ev rfl (ev_pickT (v := .raw _) (less_b g2) J) ?_
   refine asr J rfl (sq_nil (aw_ret ?_))
   exact retQ_pure (v := .raw _) rfl rfl (Less.eq (by simp [pcOK, *]))
  have g2' := g2
  try simp only [qq] at g2'
  refine sq_no rfl rfl (less_b g2) rfl rfl ?_
  refine sq_no rfl rfl (less_b g2) rfl rfl ?_
  refine sq_no rfl rfl (less_b g2) rfl rfl ?_
  refine sq_ev rfl (ev_pickF (v := .raw _) (less_b g2) J) ?_
  refine asr J rfl (sq_nil (aw_ret ?_))
  exact retQ_pure (v := .raw _) rfl rfl (Less.eq (by simp [pcOK, *]))
 have g1' := g1
 try simp only [qq] at g1'
 refine sq_no rfl rfl (less_b g1) rfl rfl ?_
 refine sq_no rfl rfl (less_b g1) rfl rfl ?_
 refine sq_no rfl rfl (less_b g1) rfl rfl ?_
 refine sq_ev rfl (ev_pickF (v := .raw _) (less_b g1) J) ?_
 refine mvr J rfl ?_
 refine sq_no rfl rfl J rfl rfl (sq_no rfl rfl J rfl rfl (sq_no rfl rfl J rfl rfl (pf rfl J J (asr J rfl (sq_nil (aw_ret ?_))))))
 exact retQ_pure (v := .raw _) rfl rfl (Less.eq (by simp [pcOK, *]))
theorem isfigure_pure (f : Fg) : APure Tryz.prog 138 [fgA f] (B (fgOK f)) := by
 refine apure_of (rs := [.tmp 2]) Tryz.func138 rfl rfl (Nat.le_of_ble_eq_true rfl) (by simp [AV.pureL, AV.pureB, AV.pureE, pureE_map]) (by first | rfl | (simp [AV.pureL, AV.pureB, AV.pureE, pureE_map])) fun e0 he0 => ?_
 refine aw_seq (aw_region ?_)
 refine sq_box rfl J rfl (asr J rfl (sq_nil (aw_seq (aw_seq (aw_region (sq_ev rfl (ev_fieldAddr fo26_0 J) ?_))))))
 refine sq_ev rfl (ev_load J rfl ty24 rfl) ?_
 refine sq_ev rfl (ev_len_map sl24 J) ?_
 refine sq_ev rfl (ev_call en117 J (in_pure _ _ _) ⟨J, J, J, trivial⟩) ?_
 refine sq_ev rfl (ev_not J) ?_
 refine mvr J rfl ?_
 refine sq_split 13 J (fun g1_5 => ?_) (fun g1_5 => ?_)
 ·
  have g1_5' := g1_5
  try simp only [qq] at g1_5'
  refine sq_no rfl rfl (less_b g1_5) rfl rfl ?_
  refine sq_no rfl rfl (less_b g1_5) rfl rfl ?_
  refine sq_no rfl rfl (less_b g1_5) rfl rfl ?_
  refine sq_no rfl rfl (less_b g1_5) rfl rfl ?_
  refine sq_no rfl rfl (less_b g1_5) rfl rfl ?_
  refine sq_no rfl rfl (less_b g1_5) rfl rfl ?_
  refine sq_no rfl rfl (less_b g1_5) rfl rfl ?_
  refine sq_ev rfl (ev_pickT (v := .raw _) (less_b g1_5) J) ?_
  refine sq_nil ?_
  refine aw_true J ?_
  refine aw_seq (aw_region (asr J rfl (sq_nil (aw_ret ?_))))
  exact retQ_pure (v := .raw _) rfl rfl (Less.eq (by unfold fgOK; simp_all))
 have g1_5' := g1_5
 try simp only [qq] at g1_5'
 have h1 : inn f.length 1 6 = true := by simpa using g1_5
 have hlen : 1 ≤ f.length ∧ f.length ≤ 6 := by simp only [inn, Bool.and_eq_true, decide_eq_true_eq] at h1; omega
 have hw0 := w0_eq (f := f) (by omega)
 refine sq_yes rfl rfl (less_b g1_5) rfl (ev_fieldAddr fo26_0 J) ?_
 refine sq_yes rfl rfl (less_b g1_5) rfl (ev_load J rfl ty24 rfl) ?_
 refine sq_yes rfl rfl (less_b g1_5) rfl (ev_index_map (k := 0) sl24 J J rfl (by omega)) ?_
 refine sq_yes rfl rfl (less_b g1_5) rfl (ev_load_i J ty9 rfl) ?_
 refine sq_yes rfl rfl (less_b g1_5) rfl (ev_lenS Tryz.underlying9 J) ?_
 refine sq_yes rfl rfl (less_b g1_5) rfl (ev_call en117 J (in_pure _ _ _) ⟨J, J, J, trivial⟩) ?_
 refine sq_yes rfl rfl (less_b g1_5) rfl (ev_not J) ?_
 refine sq_ev rfl (ev_pickF (v := .raw _) (less_b g1_5) J) ?_
 refine sq_nil ?_
 refine aw_cond J (fun c_21 => ?_) (fun c_21 => ?_)
 ·
  have c_21' := c_21
  try simp only [qq] at c_21'
  refine aw_seq (aw_region (asr J rfl (sq_nil (aw_ret ?_))))
  exact retQ_pure (v := .raw _) rfl rfl (Less.eq (by unfold fgOK; rw [hw0]; simp_all))
 have c_21' := c_21
 try simp only [qq] at c_21'
 have h2 : inn (w0 f) 1 6 = true := by rw [hw0]; simpa using c_21
 refine aw_skip (aw_seq (aw_region (asr J rfl (sq_nil (aw_seq (aw_seq (aw_region (sq_ev rfl (ev_fieldAddr fo26_0 J) ?_))))))))
 refine sq_ev rfl (ev_load J rfl ty24 rfl) ?_
 refine sq_ev rfl (ev_len_map sl24 J) ?_
 refine mvr J rfl (sq_nil (aw_block ?_))
 refine aw_loopk (ι := { k : Nat // k ≤ f.length ∧ ∀ i, (h : i < f.length) → i < k → fgRow (w0 f) f[i] = true }) [1, 23, 24] (fun i => [(25, I i.1), (3, B ((f.take i.1).any hasH))]) (fun H i => H) (fun i => f.length - i.1) (⟨0, Nat.zero_le _, by omega⟩) ⟨J, J, J, J, J, trivial⟩ rfl ?_
 rintro ⟨k, hk, hok⟩
 dsimp only [keepS, St.put, sget, slotsOf, nn1, nn2, nn3, nn4, nn5, nn6, Nat.reduceBEq, Nat.reduceAdd, nn7, nn8]
 refine aw_seq (aw_region (sq_ev rfl (ev_lss J J) ?_))
 refine sq_nil (aw_seq ?_)
 refine aw_cond J (fun c_26 => ?_) (fun c_26 => ?_)
 ·
  have c_26' := c_26
  try simp only [qq] at c_26'
  refine aw_skip (aw_seq (aw_block (aw_seq (aw_region (sq_ev rfl (ev_index_map sl24 J J rfl (by omega)) ?_)))))
  refine sq_ev rfl (ev_load_i J ty9 rfl) ?_
  refine asr J rfl (sq_nil (aw_seq (aw_seq (aw_region (mvr J rfl (sq_ev rfl (ev_lenS Tryz.underlying9 J) ?_))))))
  refine sq_ev rfl (ev_fieldAddr fo26_0 J) ?_
  refine sq_ev rfl (ev_load J rfl ty24 rfl) ?_
  refine sq_ev rfl (ev_index_map (k := 0) sl24 J J rfl (by omega)) ?_
  refine sq_ev rfl (ev_load_i J ty9 rfl) ?_
  refine sq_ev rfl (ev_lenS Tryz.underlying9 J) ?_
  refine sq_ev rfl (ev_neq J J) ?_
  refine sq_nil ?_
  refine aw_cond J (fun c_36 => ?_) (fun c_36 => ?_)
  ·
   have c_36' := c_36
   try simp only [qq] at c_36'
   refine aw_seq (aw_region (asr J rfl (sq_nil (aw_ret ?_))))
   exact retQ_pure (v := .raw _) rfl rfl (Less.eq (by rw [fg_row_bad (k := k) (by omega) (fgRow_len (by rw [hw0]; omega))]))
  have c_36' := c_36
  try simp only [qq] at c_36'
  refine aw_skip (aw_seq (aw_region (mvr J rfl ?_)))
  refine sq_rangeS rfl Tryz.underlying9 J ?_
  refine sq_nil (aw_block ?_)
  refine aw_loopk (ι := { j : Nat // j ≤ f[k].length ∧ ∀ i, (h : i < f[k].length) → i < j → chOK f[k][i] = true }) [1, 23, 24, 25, 38] (fun q => [(3, B ((f.take k).any hasH || (f[k].take q.1).any fun c => decide (c = 35)))]) (fun H q => H.set 1 (.raw (.stringIter ⟨f[k].toArray⟩ q.1))) (fun q => f[k].length - q.1) (⟨0, Nat.zero_le _, by omega⟩) ⟨(Less.eq (by show B ((f.take k).any hasH) = _; simp)), J, J, J, J, J, trivial⟩ rfl ?_
  rintro ⟨j, hj, hoj⟩
  dsimp only [keepS, St.put, sget, slotsOf, nn1, nn2, nn3, nn4, nn5, nn6, Nat.reduceBEq, Nat.reduceAdd, nn7, nn8]
  refine aw_seq (aw_region ?_)
  refine sq_nextS rfl J rfl (fun n_39 => ?_) (fun n_39 => ?_)
  ·
   have hk' : j < f[k].length := by rw [bs_size] at n_39; exact n_39
   have hdl := decode_le ⟨f[k].toArray⟩ j
   have eC := any_take (q := fun c => decide (c = 35)) (l := f[k]) (k := j) hk'
   refine xtr rfl J rfl (sq_nil (aw_seq ?_))
   refine aw_true J ?_
   refine aw_skip (aw_block (aw_seq (aw_region (xtr rfl J rfl ?_))))
   refine asr J rfl (sq_nil (aw_seq (aw_seq (aw_region (mvr J rfl (sq_ev rfl (ev_neq J J) ?_))))))
   refine mvr J rfl ?_
   refine sq_split 44 J (fun g12_2 => ?_) (fun g12_2 => ?_)
   ·
    have g12_2' := g12_2
    try simp only [qq] at g12_2'
    refine sq_yes rfl rfl (less_b g12_2) rfl (ev_mv (v := .raw _) J) ?_
    refine sq_yes rfl rfl (less_b g12_2) rfl (ev_neq J J) ?_
    refine sq_ev rfl (ev_pickT (v := .raw _) (less_b g12_2) J) ?_
    refine sq_nil ?_
    refine aw_cond J (fun c_47 => ?_) (fun c_47 => ?_)
    ·
     have c_47' := c_47
     try simp only [qq] at c_47'
     refine aw_seq (aw_region (asr J rfl (sq_nil (aw_ret ?_))))
     exact retQ_pure (v := .raw _) rfl rfl (Less.eq (by rw [fg_row_bad (k := k) (by omega) (fgRow_ch (j := j) hk' (ch_bad hk' (by omega)))]))
    have c_47' := c_47
    try simp only [qq] at c_47'
    have hdec := ch_dec hk' (by omega)
    refine aw_skip (aw_region (mvr J rfl (mvr J rfl ?_)))
    refine sq_split 49 J (fun g14_1 => ?_) (fun g14_1 => ?_)
    ·
     have g14_1' := g14_1
     try simp only [qq] at g14_1'
     have eF : B true = B ((f.take k).any hasH || (f[k].take (j + 1)).any fun c => decide (c = 35)) := by rw [eC, ← Bool.or_assoc, g14_1]; rfl
     refine sq_no rfl rfl (less_b g14_1) rfl rfl ?_
     refine sq_no rfl rfl (less_b g14_1) rfl rfl ?_
     refine sq_ev rfl (ev_pickT (v := .raw _) (less_b g14_1) J) ?_
     refine asr J rfl (sq_nil ?_)
     exact ⟨⟨j + 1, by omega, fun i h hi => (by by_cases e : i = j; (subst e; exact hdec.2); exact hoj i h (by omega))⟩, by simp only; omega, Sub.fin 2 ⟨(Less.eq eF), J, J, J, J, J, trivial⟩ (by rw [hdec.1] <;> rfl) (by simp [slotsIn, objsIn, sget, keepS, AObj.inB, AV.inB, AV.inL, AV.inE, inE_map]) (by simp [slotsIn, objsIn, sget, keepS, AObj.inB, AV.inB, AV.inL, AV.inE, inE_map]) (by simp [he0])⟩
    have g14_1' := g14_1
    try simp only [qq] at g14_1'
    have eF : B (decide (((Utf8.decode ⟨f[k].toArray⟩ j).1 : Int) = 35)) = B ((f.take k).any hasH || (f[k].take (j + 1)).any fun c => decide (c = 35)) := by rw [eC, ← Bool.or_assoc, g14_1, hdec.1, dec35]; rfl
    refine sq_yes rfl rfl (less_b g14_1) rfl (ev_mv (v := .raw _) J) ?_
    refine sq_yes rfl rfl (less_b g14_1) rfl (ev_eql J J) ?_
    refine sq_ev rfl (ev_pickF (v := .raw _) (less_b g14_1) J) ?_
    refine asr J rfl (sq_nil ?_)
    exact ⟨⟨j + 1, by omega, fun i h hi => (by by_cases e : i = j; (subst e; exact hdec.2); exact hoj i h (by omega))⟩, by simp only; omega, Sub.fin 2 ⟨(Less.eq eF), J, J, J, J, J, trivial⟩ (by rw [hdec.1] <;> rfl) (by simp [slotsIn, objsIn, sget, keepS, AObj.inB, AV.inB, AV.inL, AV.inE, inE_map]) (by simp [slotsIn, objsIn, sget, keepS, AObj.inB, AV.inB, AV.inL, AV.inE, inE_map]) (by simp [he0])⟩
   have g12_2' := g12_2
   try simp only [qq] at g12_2'
   have hdec := ch_dec hk' (by omega)
   refine sq_no rfl rfl (less_b g12_2) rfl rfl ?_
   refine sq_no rfl rfl (less_b g12_2) rfl rfl ?_
   refine sq_ev rfl (ev_pickF (v := .raw _) (less_b g12_2) J) ?_
   refine sq_nil ?_
   refine aw_false J ?_
   refine aw_skip (aw_region (mvr J rfl (mvr J rfl ?_)))
   refine sq_split 49 J (fun g14_1 => ?_) (fun g14_1 => ?_)
   ·
    have g14_1' := g14_1
    try simp only [qq] at g14_1'
    have eF : B true = B ((f.take k).any hasH || (f[k].take (j + 1)).any fun c => decide (c = 35)) := by rw [eC, ← Bool.or_assoc, g14_1]; rfl
    refine sq_no rfl rfl (less_b g14_1) rfl rfl ?_
    refine sq_no rfl rfl (less_b g14_1) rfl rfl ?_
    refine sq_ev rfl (ev_pickT (v := .raw _) (less_b g14_1) J) ?_
    refine asr J rfl (sq_nil ?_)
    exact ⟨⟨j + 1, by omega, fun i h hi => (by by_cases e : i = j; (subst e; exact hdec.2); exact hoj i h (by omega))⟩, by simp only; omega, Sub.fin 2 ⟨(Less.eq eF), J, J, J, J, J, trivial⟩ (by rw [hdec.1] <;> rfl) (by simp [slotsIn, objsIn, sget, keepS, AObj.inB, AV.inB, AV.inL, AV.inE, inE_map]) (by simp [slotsIn, objsIn, sget, keepS, AObj.inB, AV.inB, AV.inL, AV.inE, inE_map]) (by simp [he0])⟩
   have g14_1' := g14_1
   try simp only [qq] at g14_1'
   have eF : B (decide (((Utf8.decode ⟨f[k].toArray⟩ j).1 : Int) = 35)) = B ((f.take k).any hasH || (f[k].take (j + 1)).any fun c => decide (c = 35)) := by rw [eC, ← Bool.or_assoc, g14_1, hdec.1, dec35]; rfl
   refine sq_yes rfl rfl (less_b g14_1) rfl (ev_mv (v := .raw _) J) ?_
   refine sq_yes rfl rfl (less_b g14_1) rfl (ev_eql J J) ?_
   refine sq_ev rfl (ev_pickF (v := .raw _) (less_b g14_1) J) ?_
   refine asr J rfl (sq_nil ?_)
   exact ⟨⟨j + 1, by omega, fun i h hi => (by by_cases e : i = j; (subst e; exact hdec.2); exact hoj i h (by omega))⟩, by simp only; omega, Sub.fin 2 ⟨(Less.eq eF), J, J, J, J, J, trivial⟩ (by rw [hdec.1] <;> rfl) (by simp [slotsIn, objsIn, sget, keepS, AObj.inB, AV.inB, AV.inL, AV.inE, inE_map]) (by simp [slotsIn, objsIn, sget, keepS, AObj.inB, AV.inB, AV.inL, AV.inE, inE_map]) (by simp [he0])⟩
  have hjl : j = f[k].length := by rw [bs_size] at n_39; omega
  refine xtr rfl J rfl (sq_nil (aw_seq ?_))
  refine aw_false J ?_
  refine aw_exit (aw_region (sq_ev rfl (ev_add J J (wr (by omega) (by omega))) ?_))
  refine mvr J rfl (sq_nil ?_)
  have hgood : fgRow (w0 f) f[k] = true := fgRow_ok (by omega) (fun i h => hoj i h (by omega))
  have eA := any_take (q := hasH) (l := f) (k := k) (by omega)
  have eB : hasH f[k] = (f[k].take j).any (fun c => decide (c = 35)) := by unfold hasH; rw [List.take_of_length_le (by omega)]
  exact ⟨⟨k + 1, by omega, fun i h hi => (by by_cases e : i = k; (subst e; exact hgood); exact hok i h (by omega))⟩, by simp only; omega, Sub.fin 1 ⟨J, (Less.eq (show B ((f.take k).any hasH || (f[k].take j).any fun c => decide (c = 35)) = _ by rw [eA, eB])), J, J, J, trivial⟩ rfl (by simp [slotsIn, objsIn, sget, keepS, AObj.inB, AV.inB, AV.inL, AV.inE, inE_map]) (by simp [slotsIn, objsIn, sget, keepS, AObj.inB, AV.inB, AV.inL, AV.inE, inE_map]) (by simp [he0])⟩
 have c_26' := c_26
 try simp only [qq] at c_26'
 refine aw_exit (aw_seq (aw_region (mvr J rfl (asr J rfl (sq_nil (aw_ret ?_))))))
 exact retQ_pure (v := .raw _) rfl rfl (Less.eq (by rw [fg_end h1 h2 (fun i h => hok i h (by omega)), show k = f.length by omega, List.take_length]))
end Go.Proofs.YtmbknoaneglilaaGreatDoor
namespace Go.Proofs.YtmbknoaneglilaaGreatDoor
open Go Go.Ab Ni Ol
theorem ar241 : arrElem Tryz.prog 241 = some (2, 240, 1) := by kernel_rfl
theorem bi139 : bldInfo Tryz.prog 139 = some ([.raw (.int .i64 0), .raw (.int .i64 0), .raw (.int .i64 0), .raw (.int .i64 0), .raw (.int .i64 0), .raw (.int .i64 0), .raw (.slice none 0 0), .raw (.int .i64 0), .raw (.int .i64 0), .raw (.int .i64 0)], true, [(0, 6), (6, 1), (7, 3)], 0) := by kernel_rfl
theorem bi241 : bldInfo Tryz.prog 241 = some ([.raw .nilFunc, .raw .nilFunc], false, [], 1) := by kernel_rfl
theorem en137 : Ent Tryz.prog 137 := Ent.of Tryz.func137 (by kernel_rfl) rfl
theorem en138 : Ent Tryz.prog 138 := Ent.of Tryz.func138 (by kernel_rfl) rfl
theorem en146 : Ent Tryz.prog 146 := Ent.of Tryz.func146 (by kernel_rfl) rfl
theorem en166 : Ent Tryz.prog 166 := Ent.of Tryz.func166 (by kernel_rfl) rfl
theorem en172 : Ent Tryz.prog 172 := Ent.of Tryz.func172 (by kernel_rfl) rfl
theorem en173 : Ent Tryz.prog 173 := Ent.of Tryz.func173 (by kernel_rfl) rfl
theorem en188 : Ent Tryz.prog 188 := Ent.of Tryz.func188 (by kernel_rfl) rfl
theorem en189 : Ent Tryz.prog 189 := Ent.of Tryz.func189 (by kernel_rfl) rfl
theorem en196 : Ent Tryz.prog 196 := Ent.of Tryz.func196 (by kernel_rfl) rfl
theorem en197 : Ent Tryz.prog 197 := Ent.of Tryz.func197 (by kernel_rfl) rfl
theorem en208 : Ent Tryz.prog 208 := Ent.of Tryz.func208 (by kernel_rfl) rfl
theorem fo139_0 : fOff Tryz.prog 139 0 = some (0, 23) := by kernel_rfl
theorem fo139_1 : fOff Tryz.prog 139 1 = some (6, 26) := by kernel_rfl
theorem fo139_2 : fOff Tryz.prog 139 2 = some (7, 28) := by kernel_rfl
theorem mo : Tryz.prog.follows .mixedOrders = true := by kernel_rfl
theorem ty139 : tySz Tryz.prog 139 = some (true, 10) := by kernel_rfl
theorem ty23 : tySz Tryz.prog 23 = some (true, 6) := by kernel_rfl
theorem ty240 : tySz Tryz.prog 240 = some (false, 1) := by kernel_rfl
theorem ty241 : tySz Tryz.prog 241 = some (true, 2) := by kernel_rfl
theorem ty26 : tySz Tryz.prog 26 = some (true, 1) := by kernel_rfl
theorem ty28 : tySz Tryz.prog 28 = some (true, 3) := by kernel_rfl
theorem z139 : zeroOf Tryz.prog 139 = some [.raw (.int .i64 0), .raw (.int .i64 0), .raw (.int .i64 0), .raw (.int .i64 0), .raw (.int .i64 0), .raw (.int .i64 0), .raw (.slice none 0 0), .raw (.int .i64 0), .raw (.int .i64 0), .raw (.int .i64 0)] := by kernel_rfl
theorem z241 : zeroOf Tryz.prog 241 = some [.raw .nilFunc, .raw .nilFunc] := by kernel_rfl
theorem wrn {n : Int} (h1 : -9223372036854775807 ≤ n) (h2 : n ≤ 9223372036854775807) : IntKind.i64.wrap (0 - n) = -n := by rw [Int.zero_sub]; exact wr (by omega) (by omega)
theorem from_pure {c : Ca} (hc : CaB c) {k axis edge : Int} (hk : -100 ≤ k ∧ k ≤ 100) (ha : 0 ≤ axis ∧ axis ≤ 16) (he : -20 ≤ edge ∧ edge ≤ 20) : APure Tryz.prog 208 [caA c, I k, I axis, I edge] (I (c.frm k axis edge)) := by
 refine apure_of (rs := [.tmp 8]) Tryz.func208 rfl rfl (Nat.le_of_ble_eq_true rfl) (by simp [AV.pureL, AV.pureB, AV.pureE, pureE_map]) (by first | rfl | (simp [AV.pureL, AV.pureB, AV.pureE, pureE_map])) fun e0 he0 => ?_
 refine aw_seq (aw_region (sq_box rfl J rfl (asr J rfl (sq_nil (aw_seq ?_)))))
 obtain ⟨s1, s2, s3, s4, s5, s6⟩ := hc.st
 obtain ⟨p1, p2, p3⟩ := hc.pc
 have hf := frm_bd hc hk ha he
 refine aw_region (mvr J rfl (mvr J rfl (sq_ev rfl (ev_sub J J (wr (by omega) (by omega))) ?_)))
 refine sq_ev rfl (ev_fieldAddr fo139_0 J) ?_
 refine sq_ev rfl (ev_fieldAddr fo23_2 J) ?_
 refine sq_ev rfl (ev_load J rfl ty3 rfl) ?_
 refine sq_ev rfl (ev_mul J J (wr (by omega) (by omega))) ?_
 refine mvr J rfl (mvr J rfl (sq_ev rfl (ev_sub J J (wr (by omega) (by omega))) ?_))
 refine sq_ev rfl (ev_fieldAddr fo139_0 J) ?_
 refine sq_ev rfl (ev_fieldAddr fo23_2 J) ?_
 refine sq_ev rfl (ev_load J rfl ty3 rfl) ?_
 refine sq_ev rfl (ev_fieldAddr fo139_2 J) ?_
 refine sq_ev rfl (ev_fieldAddr fo28_0 J) ?_
 refine sq_ev rfl (ev_load J rfl ty3 rfl) ?_
 refine sq_ev rfl (ev_sub J J (wr (by omega) (by omega))) ?_
 refine sq_ev rfl (ev_mul J J (wr (by omega) (by omega))) ?_
 refine sq_ev rfl (ev_add J J (wr (by omega) (by omega))) ?_
 refine asr J rfl (sq_nil (aw_ret ?_))
 exact retQ_pure (v := .raw _) rfl rfl J
theorem blur_pure {c : Ca} (hc : CaB c) : APure Tryz.prog 166 [caA c] (I c.blur) := by
 refine apure_of (rs := [.tmp 2]) Tryz.func166 rfl rfl (Nat.le_of_ble_eq_true rfl) (by simp [AV.pureL, AV.pureB, AV.pureE, pureE_map]) (by first | rfl | (simp [AV.pureL, AV.pureB, AV.pureE, pureE_map])) fun e0 he0 => ?_
 refine aw_seq (aw_region (sq_box rfl J rfl (asr J rfl (sq_nil (aw_seq ?_)))))
 obtain ⟨s1, s2, s3, s4, s5, s6⟩ := hc.st
 obtain ⟨p1, p2, p3⟩ := hc.pc
 have hf := blur_bd hc
 refine aw_region (sq_ev rfl (ev_fieldAddr fo139_0 J) ?_)
 refine sq_ev rfl (ev_fieldAddr fo23_3 J) ?_
 refine sq_ev rfl (ev_load J rfl ty3 rfl) ?_
 refine sq_ev rfl (ev_fieldAddr fo139_2 J) ?_
 refine sq_ev rfl (ev_fieldAddr fo28_0 J) ?_
 refine sq_ev rfl (ev_load J rfl ty3 rfl) ?_
 refine sq_ev rfl (ev_mul J J (wr (by omega) (by omega))) ?_
 refine asr J rfl (sq_nil (aw_ret ?_))
 exact retQ_pure (v := .raw _) rfl rfl J
theorem across_pure {c : Ca} (hc : CaB c) {k : Int} (hk : -90 ≤ k ∧ k ≤ 90) : APure Tryz.prog 196 [caA c, I k] (.tup [I (c.acr k).1, I (c.acr k).2]) := by
 refine apure_of (rs := [.tmp 4, .tmp 5]) Tryz.func196 rfl rfl (Nat.le_of_ble_eq_true rfl) (by simp [AV.pureL, AV.pureB, AV.pureE, pureE_map]) (by first | rfl | (simp [AV.pureL, AV.pureB, AV.pureE, pureE_map])) fun e0 he0 => ?_
 refine aw_seq (aw_region (sq_box rfl J rfl (asr J rfl (asr J rfl (sq_nil (aw_seq ?_))))))
 obtain ⟨s1, s2, s3, s4, s5, s6⟩ := hc.st
 obtain ⟨p1, p2, p3⟩ := hc.pc
 have a1 : (c.frm k c.s.x c.p.x) = (c.s.x - c.p.x) * c.s.far + (k - c.s.x) * (c.s.far - c.p.near) := rfl
 have a2 : (c.frm (k + 1) c.s.x c.p.x) = (c.s.x - c.p.x) * c.s.far + (k + 1 - c.s.x) * (c.s.far - c.p.near) := rfl
 have hf1 := frm_bd hc (k := k) (axis := c.s.x) (edge := c.p.x) (by omega) (by omega) (by omega)
 have hf2 := frm_bd hc (k := k + 1) (axis := c.s.x) (edge := c.p.x) (by omega) (by omega) (by omega)
 have hb := blur_bd hc
 have hb' : c.blur = c.s.flame * c.p.near := rfl
 refine aw_draw 27 mo (by kernel_rfl) ?_
 refine dr_ev rfl (ev_load_agg J rfl ty139 rfl) ?_
 refine dr_ev rfl (ev_mv (v := .raw _) J) ?_
 refine dr_ev rfl (ev_fieldAddr fo139_0 J) ?_
 refine dr_ev rfl (ev_fieldAddr fo23_4 J) ?_
 refine dr_ev rfl (ev_load J rfl ty3 rfl) ?_
 refine dr_ev rfl (ev_fieldAddr fo139_2 J) ?_
 refine dr_ev rfl (ev_fieldAddr fo28_1 J) ?_
 refine dr_ev rfl (ev_load J rfl ty3 rfl) ?_
 refine dr_ev rfl (ev_call en208 J (from_pure hc (by omega) (by omega) (by omega)) ⟨J, J, J, J, trivial⟩) ?_
 refine dr_ev rfl (ev_load_agg J rfl ty139 rfl) ?_
 refine dr_ev rfl (ev_call en166 J (blur_pure hc) ⟨J, trivial⟩) ?_
 refine dr_ev rfl (ev_sub J J (wr (by omega) (by omega))) ?_
 refine dr_ev rfl (ev_load_agg J rfl ty139 rfl) ?_
 refine dr_ev rfl (ev_mv (v := .raw _) J) ?_
 refine dr_ev rfl (ev_add J J (wr (by omega) (by omega))) ?_
 refine dr_ev rfl (ev_fieldAddr fo139_0 J) ?_
 refine dr_ev rfl (ev_fieldAddr fo23_4 J) ?_
 refine dr_ev rfl (ev_load J rfl ty3 rfl) ?_
 refine dr_ev rfl (ev_fieldAddr fo139_2 J) ?_
 refine dr_ev rfl (ev_fieldAddr fo28_1 J) ?_
 refine dr_ev rfl (ev_load J rfl ty3 rfl) ?_
 refine dr_ev rfl (ev_call en208 J (from_pure hc (by omega) (by omega) (by omega)) ⟨J, J, J, J, trivial⟩) ?_
 refine dr_ev rfl (ev_load_agg J rfl ty139 rfl) ?_
 refine dr_ev rfl (ev_call en166 J (blur_pure hc) ⟨J, trivial⟩) ?_
 refine dr_ev rfl (ev_add J J (wr (by omega) (by omega))) ?_
 refine dr_ev rfl (ev_as (v := .raw _) J) ?_
 refine dr_ev rfl (ev_as (v := .raw _) J) ?_
 refine dr_end (sq_nil (aw_ret ?_))
 exact retQ_pure (v := .tup [.raw _, .raw _]) rfl rfl J
theorem down_pure {c : Ca} (hc : CaB c) {k : Int} (hk : -90 ≤ k ∧ k ≤ 90) : APure Tryz.prog 197 [caA c, I k] (.tup [I (c.dwn k).1, I (c.dwn k).2]) := by
 refine apure_of (rs := [.tmp 4, .tmp 5]) Tryz.func197 rfl rfl (Nat.le_of_ble_eq_true rfl) (by simp [AV.pureL, AV.pureB, AV.pureE, pureE_map]) (by first | rfl | (simp [AV.pureL, AV.pureB, AV.pureE, pureE_map])) fun e0 he0 => ?_
 refine aw_seq (aw_region (sq_box rfl J rfl (asr J rfl (asr J rfl (sq_nil (aw_seq ?_))))))
 obtain ⟨s1, s2, s3, s4, s5, s6⟩ := hc.st
 obtain ⟨p1, p2, p3⟩ := hc.pc
 have a1 : (c.frm k c.s.y c.p.y) = (c.s.y - c.p.y) * c.s.far + (k - c.s.y) * (c.s.far - c.p.near) := rfl
 have a2 : (c.frm (k + 1) c.s.y c.p.y) = (c.s.y - c.p.y) * c.s.far + (k + 1 - c.s.y) * (c.s.far - c.p.near) := rfl
 have hf1 := frm_bd hc (k := k) (axis := c.s.y) (edge := c.p.y) (by omega) (by omega) (by omega)
 have hf2 := frm_bd hc (k := k + 1) (axis := c.s.y) (edge := c.p.y) (by omega) (by omega) (by omega)
 have hb := blur_bd hc
 have hb' : c.blur = c.s.flame * c.p.near := rfl
 refine aw_draw 27 mo (by kernel_rfl) ?_
 refine dr_ev rfl (ev_load_agg J rfl ty139 rfl) ?_
 refine dr_ev rfl (ev_mv (v := .raw _) J) ?_
 refine dr_ev rfl (ev_fieldAddr fo139_0 J) ?_
 refine dr_ev rfl (ev_fieldAddr fo23_5 J) ?_
 refine dr_ev rfl (ev_load J rfl ty3 rfl) ?_
 refine dr_ev rfl (ev_fieldAddr fo139_2 J) ?_
 refine dr_ev rfl (ev_fieldAddr fo28_2 J) ?_
 refine dr_ev rfl (ev_load J rfl ty3 rfl) ?_
 refine dr_ev rfl (ev_call en208 J (from_pure hc (by omega) (by omega) (by omega)) ⟨J, J, J, J, trivial⟩) ?_
 refine dr_ev rfl (ev_load_agg J rfl ty139 rfl) ?_
 refine dr_ev rfl (ev_call en166 J (blur_pure hc) ⟨J, trivial⟩) ?_
 refine dr_ev rfl (ev_sub J J (wr (by omega) (by omega))) ?_
 refine dr_ev rfl (ev_load_agg J rfl ty139 rfl) ?_
 refine dr_ev rfl (ev_mv (v := .raw _) J) ?_
 refine dr_ev rfl (ev_add J J (wr (by omega) (by omega))) ?_
 refine dr_ev rfl (ev_fieldAddr fo139_0 J) ?_
 refine dr_ev rfl (ev_fieldAddr fo23_5 J) ?_
 refine dr_ev rfl (ev_load J rfl ty3 rfl) ?_
 refine dr_ev rfl (ev_fieldAddr fo139_2 J) ?_
 refine dr_ev rfl (ev_fieldAddr fo28_2 J) ?_
 refine dr_ev rfl (ev_load J rfl ty3 rfl) ?_
 refine dr_ev rfl (ev_call en208 J (from_pure hc (by omega) (by omega) (by omega)) ⟨J, J, J, J, trivial⟩) ?_
 refine dr_ev rfl (ev_load_agg J rfl ty139 rfl) ?_
 refine dr_ev rfl (ev_call en166 J (blur_pure hc) ⟨J, trivial⟩) ?_
 refine dr_ev rfl (ev_add J J (wr (by omega) (by omega))) ?_
 refine dr_ev rfl (ev_as (v := .raw _) J) ?_
 refine dr_ev rfl (ev_as (v := .raw _) J) ?_
 refine dr_end (sq_nil (aw_ret ?_))
 exact retQ_pure (v := .tup [.raw _, .raw _]) rfl rfl J
theorem edges_pure  : APure Tryz.prog 188 [] (.agg [.fn (.func 196) [] [], .fn (.func 197) [] []]) := by
 refine apure_of (rs := [.cell 0 241]) Tryz.func188 rfl rfl (Nat.le_of_ble_eq_true rfl) (by simp [AV.pureL, AV.pureB, AV.pureE, pureE_map]) (by first | rfl | (simp [AV.pureL, AV.pureB, AV.pureE, pureE_map])) fun e0 he0 => ?_
 refine aw_seq (aw_region ?_)
 refine sq_alloc rfl z241 ?_
 refine sq_nil (aw_seq (aw_region (sq_ev rfl (ev_build bi241 rfl) ?_)))
 refine sq_store rfl J J rfl rfl ty241 rfl rfl ?_
 refine sq_nil (aw_ret ?_)
 exact retQ_res (vs := [.agg _]) rfl rfl ⟨resVar_cell rfl rfl ty241 rfl, trivial⟩ J
theorem below_pure {a b : Int} (ha : U a) (hb : 2 ≤ b ∧ b ≤ 40) : APure Tryz.prog 189 [I a, I b] (I (a / b)) := by
 refine apure_of (rs := [.tmp 4]) Tryz.func189 rfl rfl (Nat.le_of_ble_eq_true rfl) (by simp [AV.pureL, AV.pureB, AV.pureE, pureE_map]) (by first | rfl | (simp [AV.pureL, AV.pureB, AV.pureE, pureE_map])) fun e0 he0 => ?_
 refine aw_seq (aw_region (asr J rfl (sq_nil (aw_seq ?_))))
 have hd := ediv_bd ha hb.1
 have he := below_eq (a := a) (b := b) (by omega)
 unfold U at ha hd
 refine aw_region (mvr J rfl (mvr J rfl (sq_ev rfl (ev_quo J J (by omega) (wr (by split at he <;> omega) (by split at he <;> omega))) ?_)))
 refine asr J rfl ?_
 refine sq_nil (aw_seq (aw_seq (aw_region (mvr J rfl (mvr J rfl (sq_ev rfl (ev_rem J J (by omega)) ?_))))))
 refine sq_ev rfl (ev_lss J J) ?_
 refine sq_nil ?_
 refine aw_cond J (fun c1 => ?_) (fun c1 => ?_)
 ·
  have c1' := c1
  try simp only [qq] at c1'
  rw [if_pos c1'] at he
  refine aw_region (mvr J rfl (sq_ev rfl (ev_sub J J (wr (by omega) (by omega))) ?_))
  refine asr J rfl ?_
  refine sq_nil (aw_seq (aw_region (mvr J rfl (asr J rfl (sq_nil (aw_ret ?_))))))
  exact retQ_pure (v := .raw _) rfl rfl (Less.eq (by rw [he]))
 have c1' := c1
 try simp only [qq] at c1'
 rw [if_neg c1'] at he
 refine aw_skip (aw_seq (aw_region (mvr J rfl (asr J rfl (sq_nil (aw_ret ?_))))))
 exact retQ_pure (v := .raw _) rfl rfl (Less.eq (by rw [he]))
theorem meets0_pure {c : Ca} (hc : CaB c) {k : Int} (hk : -90 ≤ k ∧ k ≤ 90) : APure Tryz.prog 172 [caA c, I 0, I k] (.tup [I (c.mts (c.acr k)).1, I (c.mts (c.acr k)).2]) := by
 refine apure_of (rs := [.tmp 6, .tmp 7]) Tryz.func172 rfl rfl (Nat.le_of_ble_eq_true rfl) (by simp [AV.pureL, AV.pureB, AV.pureE, pureE_map]) (by first | rfl | (simp [AV.pureL, AV.pureB, AV.pureE, pureE_map])) fun e0 he0 => ?_
 refine aw_seq (aw_region (sq_box rfl J rfl (asr J rfl (asr J rfl (sq_nil (aw_seq ?_))))))
 obtain ⟨s1, s2, s3, s4, s5, s6⟩ := hc.st
 obtain ⟨p1, p2, p3⟩ := hc.pc
 have hb := acr_bd hc hk
 obtain ⟨hb1, hb2⟩ := hb
 have hb3 : U (-(c.acr k).2) := by unfold U at hb2 ⊢; omega
 have hm := mts_bd hc hb1 hb2
 unfold U Ca.mts at hm
 simp only at hm
 have hu : -20000 ≤ (c.acr k).2 ∧ (c.acr k).2 ≤ 20000 := hb2
 refine aw_draw 11 mo (by kernel_rfl) ?_
 refine dr_ev rfl (ev_call en188 J (edges_pure) trivial) ?_
 refine dr_ev rfl (ev_mv (v := .raw _) J) ?_
 refine dr_ev rfl (ev_indexv (k := 0) ar241 ty240 J J rfl (by decide) rfl) ?_
 refine dr_ev rfl (ev_load_agg J rfl ty139 rfl) ?_
 refine dr_ev rfl (ev_mv (v := .raw _) J) ?_
 refine dr_ev rfl (ev_call en196 J (across_pure hc hk) ⟨J, J, trivial⟩) ?_
 refine dr_ev rfl (ev_mv (v := .tup _) J) ?_
 refine dr_ev rfl (ev_extract J rfl) ?_
 refine dr_ev rfl (ev_extract J rfl) ?_
 refine dr_ev rfl (ev_as (v := .raw _) J) ?_
 refine dr_ev rfl (ev_as (v := .raw _) J) ?_
 refine dr_end (sq_nil (aw_seq ?_))
 refine aw_draw 15 mo (by kernel_rfl) ?_
 refine dr_ev rfl (ev_mv (v := .raw _) J) ?_
 refine dr_ev rfl (ev_fieldAddr fo139_0 J) ?_
 refine dr_ev rfl (ev_fieldAddr fo23_2 J) ?_
 refine dr_ev rfl (ev_load J rfl ty3 rfl) ?_
 refine dr_ev rfl (ev_call en189 J (below_pure (by assumption) (by omega)) ⟨J, J, trivial⟩) ?_
 refine dr_ev rfl (ev_mv (v := .raw _) J) ?_
 refine dr_ev rfl (ev_neg J (wrn (by omega) (by omega))) ?_
 refine dr_ev rfl (ev_fieldAddr fo139_0 J) ?_
 refine dr_ev rfl (ev_fieldAddr fo23_2 J) ?_
 refine dr_ev rfl (ev_load J rfl ty3 rfl) ?_
 refine dr_ev rfl (ev_call en189 J (below_pure (by assumption) (by omega)) ⟨J, J, trivial⟩) ?_
 refine dr_ev rfl (ev_neg J (wrn (by omega) (by omega))) ?_
 refine dr_ev rfl (ev_sub J J (wr (by omega) (by omega))) ?_
 refine dr_ev rfl (ev_as (v := .raw _) J) ?_
 refine dr_ev rfl (ev_as (v := .raw _) J) ?_
 refine dr_end (sq_nil (aw_ret ?_))
 exact retQ_pure (v := .tup [.raw _, .raw _]) rfl rfl J
theorem meets1_pure {c : Ca} (hc : CaB c) {k : Int} (hk : -90 ≤ k ∧ k ≤ 90) : APure Tryz.prog 172 [caA c, I 1, I k] (.tup [I (c.mts (c.dwn k)).1, I (c.mts (c.dwn k)).2]) := by
 refine apure_of (rs := [.tmp 6, .tmp 7]) Tryz.func172 rfl rfl (Nat.le_of_ble_eq_true rfl) (by simp [AV.pureL, AV.pureB, AV.pureE, pureE_map]) (by first | rfl | (simp [AV.pureL, AV.pureB, AV.pureE, pureE_map])) fun e0 he0 => ?_
 refine aw_seq (aw_region (sq_box rfl J rfl (asr J rfl (asr J rfl (sq_nil (aw_seq ?_))))))
 obtain ⟨s1, s2, s3, s4, s5, s6⟩ := hc.st
 obtain ⟨p1, p2, p3⟩ := hc.pc
 have hb := dwn_bd hc hk
 obtain ⟨hb1, hb2⟩ := hb
 have hb3 : U (-(c.dwn k).2) := by unfold U at hb2 ⊢; omega
 have hm := mts_bd hc hb1 hb2
 unfold U Ca.mts at hm
 simp only at hm
 have hu : -20000 ≤ (c.dwn k).2 ∧ (c.dwn k).2 ≤ 20000 := hb2
 refine aw_draw 11 mo (by kernel_rfl) ?_
 refine dr_ev rfl (ev_call en188 J (edges_pure) trivial) ?_
 refine dr_ev rfl (ev_mv (v := .raw _) J) ?_
 refine dr_ev rfl (ev_indexv (k := 1) ar241 ty240 J J rfl (by decide) rfl) ?_
 refine dr_ev rfl (ev_load_agg J rfl ty139 rfl) ?_
 refine dr_ev rfl (ev_mv (v := .raw _) J) ?_
 refine dr_ev rfl (ev_call en197 J (down_pure hc hk) ⟨J, J, trivial⟩) ?_
 refine dr_ev rfl (ev_mv (v := .tup _) J) ?_
 refine dr_ev rfl (ev_extract J rfl) ?_
 refine dr_ev rfl (ev_extract J rfl) ?_
 refine dr_ev rfl (ev_as (v := .raw _) J) ?_
 refine dr_ev rfl (ev_as (v := .raw _) J) ?_
 refine dr_end (sq_nil (aw_seq ?_))
 refine aw_draw 15 mo (by kernel_rfl) ?_
 refine dr_ev rfl (ev_mv (v := .raw _) J) ?_
 refine dr_ev rfl (ev_fieldAddr fo139_0 J) ?_
 refine dr_ev rfl (ev_fieldAddr fo23_2 J) ?_
 refine dr_ev rfl (ev_load J rfl ty3 rfl) ?_
 refine dr_ev rfl (ev_call en189 J (below_pure (by assumption) (by omega)) ⟨J, J, trivial⟩) ?_
 refine dr_ev rfl (ev_mv (v := .raw _) J) ?_
 refine dr_ev rfl (ev_neg J (wrn (by omega) (by omega))) ?_
 refine dr_ev rfl (ev_fieldAddr fo139_0 J) ?_
 refine dr_ev rfl (ev_fieldAddr fo23_2 J) ?_
 refine dr_ev rfl (ev_load J rfl ty3 rfl) ?_
 refine dr_ev rfl (ev_call en189 J (below_pure (by assumption) (by omega)) ⟨J, J, trivial⟩) ?_
 refine dr_ev rfl (ev_neg J (wrn (by omega) (by omega))) ?_
 refine dr_ev rfl (ev_sub J J (wr (by omega) (by omega))) ?_
 refine dr_ev rfl (ev_as (v := .raw _) J) ?_
 refine dr_ev rfl (ev_as (v := .raw _) J) ?_
 refine dr_end (sq_nil (aw_ret ?_))
 exact retQ_pure (v := .tup [.raw _, .raw _]) rfl rfl J
theorem hide_pure {c : Ca} (hc : CaB c) {row col : Int} : APure Tryz.prog 173 [caA c, I row, I col] (B (c.hide row col)) := by
 refine apure_of (rs := [.tmp 6]) Tryz.func173 rfl rfl (Nat.le_of_ble_eq_true rfl) (by simp [AV.pureL, AV.pureB, AV.pureE, pureE_map]) (by first | rfl | (simp [AV.pureL, AV.pureB, AV.pureE, pureE_map])) fun e0 he0 => ?_
 refine aw_seq (aw_region (sq_box rfl J rfl (asr J rfl (sq_nil (aw_seq ?_)))))
 obtain ⟨f1, f2⟩ := hc.fg
 have w1 := hc.w
 have hw := w0_eq (f := c.f) (by omega)
 refine aw_region (mvr J rfl (sq_ev rfl (ev_fieldAddr fo139_1 J) ?_))
 refine sq_ev rfl (ev_fieldAddr fo26_0 J) ?_
 refine sq_ev rfl (ev_load J rfl ty24 rfl) ?_
 refine sq_ev rfl (ev_len_map sl24 J) ?_
 refine sq_ev rfl (ev_sub J J (wr (by omega) (by omega))) ?_
 refine sq_ev rfl (ev_call en117 J (in_pure _ _ _) ⟨J, J, J, trivial⟩) ?_
 refine mvr J rfl ?_
 refine sq_split 14 J (fun g1_7 => ?_) (fun g1_7 => ?_)
 ·
  have g1_7' := g1_7
  try simp only [qq] at g1_7'
  refine sq_yes rfl rfl (less_b g1_7) rfl (ev_mv (v := .raw _) J) ?_
  refine sq_yes rfl rfl (less_b g1_7) rfl (ev_fieldAddr fo139_1 J) ?_
  refine sq_yes rfl rfl (less_b g1_7) rfl (ev_fieldAddr fo26_0 J) ?_
  refine sq_yes rfl rfl (less_b g1_7) rfl (ev_load J rfl ty24 rfl) ?_
  refine sq_yes rfl rfl (less_b g1_7) rfl (ev_index_map (k := 0) sl24 J J rfl (by omega)) ?_
  refine sq_yes rfl rfl (less_b g1_7) rfl (ev_load_i J ty9 rfl) ?_
  refine sq_yes rfl rfl (less_b g1_7) rfl (ev_lenS Tryz.underlying9 J) ?_
  refine sq_yes rfl rfl (less_b g1_7) rfl (ev_sub J J (wr (by omega) (by omega))) ?_
  refine sq_yes rfl rfl (less_b g1_7) rfl (ev_call en117 J (in_pure _ _ _) ⟨J, J, J, trivial⟩) ?_
  refine sq_ev rfl (ev_pickT (v := .raw _) (less_b g1_7) J) ?_
  refine mvr J rfl ?_
  refine sq_split 25 J (fun g1_18 => ?_) (fun g1_18 => ?_)
  ·
   have g1_18' := g1_18
   try simp only [qq] at g1_18'
   have k1 := g1_7
   have k2 := g1_18
   unfold inn at k1 k2
   simp only [Bool.and_eq_true, decide_eq_true_eq] at k1 k2
   obtain ⟨i, rfl⟩ : ∃ i : Nat, row = (i : Int) := ⟨row.toNat, by omega⟩
   obtain ⟨j, rfl⟩ : ∃ j : Nat, col = (j : Int) := ⟨col.toNat, by omega⟩
   have hr := hc.row i (by omega)
   refine sq_yes rfl rfl (less_b g1_18) rfl (ev_fieldAddr fo139_1 J) ?_
   refine sq_yes rfl rfl (less_b g1_18) rfl (ev_fieldAddr fo26_0 J) ?_
   refine sq_yes rfl rfl (less_b g1_18) rfl (ev_load J rfl ty24 rfl) ?_
   refine sq_yes rfl rfl (less_b g1_18) rfl (ev_mv (v := .raw _) J) ?_
   refine sq_yes rfl rfl (less_b g1_18) rfl (ev_index_map sl24 J J rfl (by omega)) ?_
   refine sq_yes rfl rfl (less_b g1_18) rfl (ev_load_i J ty9 rfl) ?_
   refine sq_yes rfl rfl (less_b g1_18) rfl (ev_mv (v := .raw _) J) ?_
   refine sq_yes rfl rfl (less_b g1_18) rfl (ev_idxS Tryz.underlying9 J J rfl (by omega)) ?_
   refine sq_yes rfl rfl (less_b g1_18) rfl (ev_eql J J) ?_
   refine sq_ev rfl (ev_pickT (v := .raw _) (less_b g1_18) J) ?_
   refine asr J rfl (sq_nil (aw_ret ?_))
   exact retQ_pure (v := .raw _) rfl rfl (Less.eq (by rw [hide_in hc (by omega) (by omega), dec35]))
  have g1_18' := g1_18
  try simp only [qq] at g1_18'
  refine sq_no rfl rfl (less_b g1_18) rfl rfl ?_
  refine sq_no rfl rfl (less_b g1_18) rfl rfl ?_
  refine sq_no rfl rfl (less_b g1_18) rfl rfl ?_
  refine sq_no rfl rfl (less_b g1_18) rfl rfl ?_
  refine sq_no rfl rfl (less_b g1_18) rfl rfl ?_
  refine sq_no rfl rfl (less_b g1_18) rfl rfl ?_
  refine sq_no rfl rfl (less_b g1_18) rfl rfl ?_
  refine sq_no rfl rfl (less_b g1_18) rfl rfl ?_
  refine sq_no rfl rfl (less_b g1_18) rfl rfl ?_
  refine sq_ev rfl (ev_pickF (v := .raw _) (less_b g1_18) J) ?_
  refine asr J rfl (sq_nil (aw_ret ?_))
  exact retQ_pure (v := .raw _) rfl rfl (Less.eq (by rw [hide_out (by simp only [g1_7, hw, Bool.true_and, g1_18])]))
 have g1_7' := g1_7
 try simp only [qq] at g1_7'
 refine sq_no rfl rfl (less_b g1_7) rfl rfl ?_
 refine sq_no rfl rfl (less_b g1_7) rfl rfl ?_
 refine sq_no rfl rfl (less_b g1_7) rfl rfl ?_
 refine sq_no rfl rfl (less_b g1_7) rfl rfl ?_
 refine sq_no rfl rfl (less_b g1_7) rfl rfl ?_
 refine sq_no rfl rfl (less_b g1_7) rfl rfl ?_
 refine sq_no rfl rfl (less_b g1_7) rfl rfl ?_
 refine sq_no rfl rfl (less_b g1_7) rfl rfl ?_
 refine sq_no rfl rfl (less_b g1_7) rfl rfl ?_
 refine sq_ev rfl (ev_pickF (v := .raw _) (less_b g1_7) J) ?_
 refine mvr J rfl (sq_no rfl rfl J rfl rfl (sq_no rfl rfl J rfl rfl (sq_no rfl rfl J rfl rfl (sq_no rfl rfl J rfl rfl (sq_no rfl rfl J rfl rfl (sq_no rfl rfl J rfl rfl ?_))))))
 refine sq_no rfl rfl J rfl rfl (sq_no rfl rfl J rfl rfl (sq_no rfl rfl J rfl rfl (pf rfl J J (asr J rfl (sq_nil (aw_ret ?_))))))
 exact retQ_pure (v := .raw _) rfl rfl (Less.eq (by rw [hide_out (by simp only [g1_7, Bool.false_and])]))
theorem cell_pure {c : Ca} (hc : CaB c) {col row : Int} (h1 : -90 ≤ col ∧ col ≤ 90) (h2 : -90 ≤ row ∧ row ≤ 90) : APure Tryz.prog 147 [caA c, I col, I row] (C (c.cell col row)) := by
 refine apure_of (rs := [.tmp 6]) Tryz.func147 rfl rfl (Nat.le_of_ble_eq_true rfl) (by simp [AV.pureL, AV.pureB, AV.pureE, pureE_map]) (by first | rfl | (simp [AV.pureL, AV.pureB, AV.pureE, pureE_map])) fun e0 he0 => ?_
 refine aw_seq (aw_region (sq_box rfl J rfl (asr J rfl (sq_nil (aw_seq ?_)))))
 have a1 := acr_bd hc h1
 have a2 := dwn_bd hc h2
 have m1 := mts_bd hc a1.1 a1.2
 have m2 := mts_bd hc a2.1 a2.2
 unfold U at m1 m2
 refine aw_region (sq_ev rfl (ev_load_agg J rfl ty139 rfl) ?_)
 refine mvr J rfl (sq_ev rfl (ev_call en172 J (meets0_pure hc h1) ⟨J, J, J, trivial⟩) ?_)
 refine sq_ev rfl (ev_mv (v := .tup _) J) ?_
 refine xtr rfl J rfl ?_
 refine xtr rfl J rfl (asr J rfl (asr J rfl (sq_nil (aw_seq (aw_region (sq_ev rfl (ev_load_agg J rfl ty139 rfl) ?_))))))
 refine mvr J rfl (sq_ev rfl (ev_call en172 J (meets1_pure hc h2) ⟨J, J, J, trivial⟩) ?_)
 refine sq_ev rfl (ev_mv (v := .tup _) J) ?_
 refine xtr rfl J rfl (xtr rfl J rfl ?_)
 refine asr J rfl (asr J rfl (sq_nil (aw_seq (aw_region (asr J rfl (asr J rfl ?_))))))
 refine sq_nil (aw_seq (aw_seq (aw_region (mvr J rfl (asr J rfl (sq_nil (aw_block ?_)))))))
 refine aw_loopk (ι := { m : Int // (c.mts (c.dwn row)).1 ≤ m ∧ (m ≤ (c.mts (c.dwn row)).2 + 1 ∨ m = (c.mts (c.dwn row)).1) }) [3, 7, 8, 10] (fun i => [(11, B (c.boxAll (c.mts (c.acr col)) ((c.mts (c.dwn row)).1, i.1 - 1))), (12, B (c.boxAny (c.mts (c.acr col)) ((c.mts (c.dwn row)).1, i.1 - 1))), (13, I i.1)]) (fun H i => H) (fun i => ((c.mts (c.dwn row)).2 + 1 - i.1).toNat) (⟨(c.mts (c.dwn row)).1, Int.le_refl _, .inr rfl⟩) ⟨(Less.eq (by show B true = _; rw [Ca.boxAll_nil (by dsimp only; omega)])), (Less.eq (by show B false = _; rw [Ca.boxAny_nil (by dsimp only; omega)])), J, J, J, J, J, trivial⟩ rfl ?_
 rintro ⟨m, hm1, hm2⟩
 dsimp only [keepS, St.put, sget, slotsOf, nn1, nn2, nn3, nn4, nn5, nn6, Nat.reduceBEq, Nat.reduceAdd, nn7, nn8]
 refine aw_seq (aw_seq (aw_region (mvr J rfl (mvr J rfl (sq_ev rfl (ev_leq J J) ?_)))))
 refine sq_nil ?_
 refine aw_cond J (fun c_31 => ?_) (fun c_31 => ?_)
 ·
  have c_31' := c_31
  try simp only [qq] at c_31'
  refine aw_skip (aw_seq (aw_block (aw_seq (aw_region (mvr J rfl (asr J rfl (sq_nil (aw_block ?_))))))))
  refine aw_loopk (ι := { k : Int // (c.mts (c.acr col)).1 ≤ k ∧ (k ≤ (c.mts (c.acr col)).2 + 1 ∨ k = (c.mts (c.acr col)).1) }) [3, 7, 8, 10, 13] (fun i => [(11, B (c.boxAll (c.mts (c.acr col)) ((c.mts (c.dwn row)).1, m - 1) && c.rowAll m (c.mts (c.acr col)).1 (i.1 - 1))), (12, B (c.boxAny (c.mts (c.acr col)) ((c.mts (c.dwn row)).1, m - 1) || c.rowAny m (c.mts (c.acr col)).1 (i.1 - 1))), (14, I i.1)]) (fun H i => H) (fun i => ((c.mts (c.acr col)).2 + 1 - i.1).toNat) (⟨(c.mts (c.acr col)).1, Int.le_refl _, .inr rfl⟩) ⟨(Less.eq (by show B (c.boxAll (c.mts (c.acr col)) ((c.mts (c.dwn row)).1, m - 1)) = _; rw [Ca.rowAll_nil (by dsimp only; omega), Bool.and_true])), (Less.eq (by show B (c.boxAny (c.mts (c.acr col)) ((c.mts (c.dwn row)).1, m - 1)) = _; rw [Ca.rowAny_nil (by dsimp only; omega), Bool.or_false])), J, J, J, J, J, J, trivial⟩ rfl ?_
  rintro ⟨k, hk1, hk2⟩
  dsimp only [keepS, St.put, sget, slotsOf, nn1, nn2, nn3, nn4, nn5, nn6, Nat.reduceBEq, Nat.reduceAdd, nn7, nn8]
  refine aw_seq (aw_seq (aw_region (mvr J rfl (mvr J rfl (sq_ev rfl (ev_leq J J) ?_)))))
  refine sq_nil ?_
  refine aw_cond J (fun c_37 => ?_) (fun c_37 => ?_)
  ·
   have c_37' := c_37
   try simp only [qq] at c_37'
   refine aw_skip (aw_seq (aw_block (aw_seq (aw_region (sq_ev rfl (ev_load_agg J rfl ty139 rfl) ?_)))))
   refine mvr J rfl (mvr J rfl (sq_ev rfl (ev_call en173 J (hide_pure hc) ⟨J, J, J, trivial⟩) ?_))
   refine asr J rfl (sq_nil (aw_region (mvr J rfl (mvr J rfl ?_))))
   refine sq_split 45 J (fun g11_1 => ?_) (fun g11_1 => ?_)
   ·
    have g11_1' := g11_1
    try simp only [qq] at g11_1'
    have eA : B (c.hide m k) = B (c.boxAll (c.mts (c.acr col)) ((c.mts (c.dwn row)).1, m - 1) && c.rowAll m (c.mts (c.acr col)).1 (k + 1 - 1)) := by rw [Int.add_sub_cancel, Ca.rowAll_snoc hk1, ← Bool.and_assoc, g11_1]; rfl
    refine sq_yes rfl rfl (less_b g11_1) rfl (ev_mv (v := .raw _) J) ?_
    refine sq_ev rfl (ev_pickT (v := .raw _) (less_b g11_1) J) ?_
    refine mvr J rfl (mvr J rfl ?_)
    refine sq_split 49 J (fun g11_5 => ?_) (fun g11_5 => ?_)
    ·
     have g11_5' := g11_5
     try simp only [qq] at g11_5'
     have eB : B true = B (c.boxAny (c.mts (c.acr col)) ((c.mts (c.dwn row)).1, m - 1) || c.rowAny m (c.mts (c.acr col)).1 (k + 1 - 1)) := by rw [Int.add_sub_cancel, Ca.rowAny_snoc hk1, ← Bool.or_assoc, g11_5]; rfl
     refine sq_no rfl rfl (less_b g11_5) rfl rfl ?_
     refine sq_ev rfl (ev_pickT (v := .raw _) (less_b g11_5) J) ?_
     refine asr J rfl (asr J rfl (sq_nil (aw_region (mvr J rfl (sq_ev rfl (ev_add J J (wr (by omega) (by omega))) ?_)))))
     refine asr J rfl (sq_nil ?_)
     exact ⟨⟨k + 1, by omega, by omega⟩, by simp only; omega, Sub.slots ⟨(Less.eq (eA)), (Less.eq (eB)), J, J, J, J, J, J, trivial⟩⟩
    have g11_5' := g11_5
    try simp only [qq] at g11_5'
    have eB : B (c.hide m k) = B (c.boxAny (c.mts (c.acr col)) ((c.mts (c.dwn row)).1, m - 1) || c.rowAny m (c.mts (c.acr col)).1 (k + 1 - 1)) := by rw [Int.add_sub_cancel, Ca.rowAny_snoc hk1, ← Bool.or_assoc, g11_5]; rfl
    refine sq_yes rfl rfl (less_b g11_5) rfl (ev_mv (v := .raw _) J) ?_
    refine sq_ev rfl (ev_pickF (v := .raw _) (less_b g11_5) J) ?_
    refine asr J rfl (asr J rfl (sq_nil (aw_region (mvr J rfl (sq_ev rfl (ev_add J J (wr (by omega) (by omega))) ?_)))))
    refine asr J rfl (sq_nil ?_)
    exact ⟨⟨k + 1, by omega, by omega⟩, by simp only; omega, Sub.slots ⟨(Less.eq (eA)), (Less.eq (eB)), J, J, J, J, J, J, trivial⟩⟩
   have g11_1' := g11_1
   try simp only [qq] at g11_1'
   have eA : B false = B (c.boxAll (c.mts (c.acr col)) ((c.mts (c.dwn row)).1, m - 1) && c.rowAll m (c.mts (c.acr col)).1 (k + 1 - 1)) := by rw [Int.add_sub_cancel, Ca.rowAll_snoc hk1, ← Bool.and_assoc, g11_1]; rfl
   refine sq_no rfl rfl (less_b g11_1) rfl rfl ?_
   refine sq_ev rfl (ev_pickF (v := .raw _) (less_b g11_1) J) ?_
   refine mvr J rfl (mvr J rfl ?_)
   refine sq_split 49 J (fun g11_5 => ?_) (fun g11_5 => ?_)
   ·
    have g11_5' := g11_5
    try simp only [qq] at g11_5'
    have eB : B true = B (c.boxAny (c.mts (c.acr col)) ((c.mts (c.dwn row)).1, m - 1) || c.rowAny m (c.mts (c.acr col)).1 (k + 1 - 1)) := by rw [Int.add_sub_cancel, Ca.rowAny_snoc hk1, ← Bool.or_assoc, g11_5]; rfl
    refine sq_no rfl rfl (less_b g11_5) rfl rfl ?_
    refine sq_ev rfl (ev_pickT (v := .raw _) (less_b g11_5) J) ?_
    refine asr J rfl (asr J rfl (sq_nil (aw_region (mvr J rfl (sq_ev rfl (ev_add J J (wr (by omega) (by omega))) ?_)))))
    refine asr J rfl (sq_nil ?_)
    exact ⟨⟨k + 1, by omega, by omega⟩, by simp only; omega, Sub.slots ⟨(Less.eq (eA)), (Less.eq (eB)), J, J, J, J, J, J, trivial⟩⟩
   have g11_5' := g11_5
   try simp only [qq] at g11_5'
   have eB : B (c.hide m k) = B (c.boxAny (c.mts (c.acr col)) ((c.mts (c.dwn row)).1, m - 1) || c.rowAny m (c.mts (c.acr col)).1 (k + 1 - 1)) := by rw [Int.add_sub_cancel, Ca.rowAny_snoc hk1, ← Bool.or_assoc, g11_5]; rfl
   refine sq_yes rfl rfl (less_b g11_5) rfl (ev_mv (v := .raw _) J) ?_
   refine sq_ev rfl (ev_pickF (v := .raw _) (less_b g11_5) J) ?_
   refine asr J rfl (asr J rfl (sq_nil (aw_region (mvr J rfl (sq_ev rfl (ev_add J J (wr (by omega) (by omega))) ?_)))))
   refine asr J rfl (sq_nil ?_)
   exact ⟨⟨k + 1, by omega, by omega⟩, by simp only; omega, Sub.slots ⟨(Less.eq (eA)), (Less.eq (eB)), J, J, J, J, J, J, trivial⟩⟩
  have c_37' := c_37
  try simp only [qq] at c_37'
  refine aw_exit (aw_region (mvr J rfl (sq_ev rfl (ev_add J J (wr (by omega) (by omega))) ?_)))
  refine asr J rfl (sq_nil ?_)
  have ek : c.rowAll m (c.mts (c.acr col)).1 (k - 1) = c.rowAll m (c.mts (c.acr col)).1 (c.mts (c.acr col)).2 := by rcases hk2 with h | h; (rw [show k - 1 = (c.mts (c.acr col)).2 by omega]); (rw [Ca.rowAll_nil (by omega), Ca.rowAll_nil (by omega)])
  have en : c.rowAny m (c.mts (c.acr col)).1 (k - 1) = c.rowAny m (c.mts (c.acr col)).1 (c.mts (c.acr col)).2 := by rcases hk2 with h | h; (rw [show k - 1 = (c.mts (c.acr col)).2 by omega]); (rw [Ca.rowAny_nil (by omega), Ca.rowAny_nil (by omega)])
  exact ⟨⟨m + 1, by omega, by omega⟩, by simp only; omega, Sub.slots ⟨(Less.eq (show B (c.boxAll (c.mts (c.acr col)) ((c.mts (c.dwn row)).1, m - 1) && c.rowAll m (c.mts (c.acr col)).1 (k - 1)) = _ by rw [Int.add_sub_cancel, Ca.boxAll_snoc hm1, ek])), (Less.eq (show B (c.boxAny (c.mts (c.acr col)) ((c.mts (c.dwn row)).1, m - 1) || c.rowAny m (c.mts (c.acr col)).1 (k - 1)) = _ by rw [Int.add_sub_cancel, Ca.boxAny_snoc hm1, en])), J, J, J, J, J, trivial⟩⟩
 have c_31' := c_31
 try simp only [qq] at c_31'
 have ek : c.boxAll (c.mts (c.acr col)) ((c.mts (c.dwn row)).1, m - 1) = c.boxAll (c.mts (c.acr col)) (c.mts (c.dwn row)) := by rcases hm2 with h | h; (rw [show m - 1 = (c.mts (c.dwn row)).2 by omega]); (rw [Ca.boxAll_nil (by omega)]; exact (Ca.boxAll_nil (x := (c.mts (c.acr col))) (a := (c.mts (c.dwn row)).1) (m := (c.mts (c.dwn row)).2) (by omega)).symm)
 have en : c.boxAny (c.mts (c.acr col)) ((c.mts (c.dwn row)).1, m - 1) = c.boxAny (c.mts (c.acr col)) (c.mts (c.dwn row)) := by rcases hm2 with h | h; (rw [show m - 1 = (c.mts (c.dwn row)).2 by omega]); (rw [Ca.boxAny_nil (by omega)]; exact (Ca.boxAny_nil (x := (c.mts (c.acr col))) (a := (c.mts (c.dwn row)).1) (m := (c.mts (c.dwn row)).2) (by omega)).symm)
 refine aw_exit (aw_seq (aw_block (aw_seq (aw_region (mvr J rfl (asr J rfl (sq_nil ?_)))))))
 refine aw_cond J (fun c_52 => ?_) (fun c_52 => ?_)
 ·
  have c_52' := c_52
  try simp only [qq] at c_52'
  refine aw_seq (aw_region (asr J rfl (sq_nil (aw_ret ?_))))
  exact retQ_pure (v := .raw _) rfl rfl (Less.eq (by unfold Ca.cell Ca.cellAt; rw [← ek, ← en]; simp_all))
 have c_52' := c_52
 try simp only [qq] at c_52'
 refine aw_seq (aw_region (mvr J rfl (asr J rfl (sq_nil ?_))))
 refine aw_cond J (fun c_54 => ?_) (fun c_54 => ?_)
 ·
  have c_54' := c_54
  try simp only [qq] at c_54'
  refine aw_seq (aw_region (asr J rfl (sq_nil (aw_ret ?_))))
  exact retQ_pure (v := .raw _) rfl rfl (Less.eq (by unfold Ca.cell Ca.cellAt; rw [← ek, ← en]; simp_all))
 have c_54' := c_54
 try simp only [qq] at c_54'
 refine aw_skip (aw_seq (aw_region (asr J rfl (sq_nil (aw_ret ?_)))))
 exact retQ_pure (v := .raw _) rfl rfl (Less.eq (by unfold Ca.cell Ca.cellAt; rw [← ek, ← en]; simp_all))
theorem casting_pure (c : Ca) : APure Tryz.prog 97 [stA c.s, fgA c.f, pcA c.p] (.tup [caA c, B (caOK c)]) := by
 refine apure_of (rs := [.cell 6 139, .tmp 7]) Tryz.func97 rfl rfl (Nat.le_of_ble_eq_true rfl) (by simp [AV.pureL, AV.pureB, AV.pureE, pureE_map]) (by simp [AV.pureL, AV.pureB, AV.pureE, pureE_map]) fun e0 he0 => ?_
 refine aw_seq (aw_region (sq_box rfl J rfl (sq_box rfl J rfl (sq_box rfl J rfl ?_))))
 refine sq_alloc rfl z139 ?_
 refine asr J rfl (sq_nil (aw_seq ?_))
 refine aw_drawc [] [15] _ mo (by kernel_rfl) (HSub.mask [3] 0 _) ?_
 refine dc_ev rfl (ev_load_agg J rfl ty23 rfl) ?_
 refine dc_ev rfl (ev_load_agg J rfl ty26 rfl) ?_
 refine dc_ev rfl (ev_load_agg J rfl ty28 rfl) ?_
 refine dc_ev rfl (ev_build bi139 rfl) ?_
 refine dc_ev rfl (ev_load_agg J rfl ty23 rfl) ?_
 refine dc_ev rfl (ev_call en137 J (isstage_pure _) ⟨J, trivial⟩) ?_
 refine dc_ev rfl (ev_mv (v := .raw _) J) ?_
 refine dc_split 14 J (fun g1_6 => ?_) (fun g1_6 => ?_)
 ·
  have g1_6' := g1_6
  try simp only [qq] at g1_6'
  refine dc_yes rfl rfl (less_b g1_6) rfl (ev_load_agg J rfl ty26 rfl) ?_
  refine dc_yes rfl rfl (less_b g1_6) rfl (ev_call en138 J (isfigure_pure _) ⟨J, trivial⟩) ?_
  refine dc_ev rfl (ev_pickT (v := .raw _) (less_b g1_6) J) ?_
  refine dc_ev rfl (ev_mv (v := .raw _) J) ?_
  refine dc_split 18 J (fun g1_10 => ?_) (fun g1_10 => ?_)
  ·
   have g1_10' := g1_10
   try simp only [qq] at g1_10'
   refine dc_yes rfl rfl (less_b g1_10) rfl (ev_load_agg J rfl ty23 rfl) ?_
   refine dc_yes rfl rfl (less_b g1_10) rfl (ev_load_agg J rfl ty28 rfl) ?_
   refine dc_yes rfl rfl (less_b g1_10) rfl (ev_call en146 J (isplace_pure _ _ (by have := stOK_iff.1 g1_6; omega)) ⟨J, J, trivial⟩) ?_
   refine dc_ev rfl (ev_pickT (v := .raw _) (less_b g1_10) J) ?_
   refine dc_eff rfl rfl (eff_store rfl J J rfl rfl ty139 rfl rfl) (by apply HL.sub; repeat' (first | exact HL.nil _ | apply HL.same | apply HL.tok)) ?_
   refine dc_ev rfl (ev_as (v := .raw _) J) ?_
   refine dc_nil (aw_ret ?_)
   exact retQ_res (vs := [.agg _, .raw _]) rfl rfl ⟨resVar_cell rfl rfl ty139 rfl, resVar_tmp _ _ _, trivial⟩ (Less.eq (by unfold caOK; simp [*]))
  have g1_10' := g1_10
  try simp only [qq] at g1_10'
  refine dc_no rfl rfl (less_b g1_10) rfl rfl ?_
  refine dc_no rfl rfl (less_b g1_10) rfl rfl ?_
  refine dc_no rfl rfl (less_b g1_10) rfl rfl ?_
  refine dc_ev rfl (ev_pickF (v := .raw _) (less_b g1_10) J) ?_
  refine dc_eff rfl rfl (eff_store rfl J J rfl rfl ty139 rfl rfl) (by apply HL.sub; repeat' (first | exact HL.nil _ | apply HL.same | apply HL.tok)) ?_
  refine dc_ev rfl (ev_as (v := .raw _) J) ?_
  refine dc_nil (aw_ret ?_)
  exact retQ_res (vs := [.agg _, .raw _]) rfl rfl ⟨resVar_cell rfl rfl ty139 rfl, resVar_tmp _ _ _, trivial⟩ (Less.eq (by unfold caOK; simp [*]))
 have g1_6' := g1_6
 try simp only [qq] at g1_6'
 refine dc_no rfl rfl (less_b g1_6) rfl rfl ?_
 refine dc_no rfl rfl (less_b g1_6) rfl rfl ?_
 refine dc_ev rfl (ev_pickF (v := .raw _) (less_b g1_6) J) ?_
 refine dc_ev rfl (ev_mv (v := .raw _) J) ?_
 refine dc_no rfl rfl J rfl rfl ?_
 refine dc_no rfl rfl J rfl rfl ?_
 refine dc_no rfl rfl J rfl rfl ?_
 refine dc_ev rfl (ev_pickF (v := .raw _) J J) ?_
 refine dc_eff rfl rfl (eff_store rfl J J rfl rfl ty139 rfl rfl) (by apply HL.sub; repeat' (first | exact HL.nil _ | apply HL.same | apply HL.tok)) ?_
 refine dc_ev rfl (ev_as (v := .raw _) J) ?_
 refine dc_nil (aw_ret ?_)
 exact retQ_res (vs := [.agg _, .raw _]) rfl rfl ⟨resVar_cell rfl rfl ty139 rfl, resVar_tmp _ _ _, trivial⟩ (Less.eq (by unfold caOK; simp [*]))
end Go.Proofs.YtmbknoaneglilaaGreatDoor
namespace Go.Proofs.YtmbknoaneglilaaGreatDoor
open Go Go.Ab Ni Ol
theorem en144 : Ent Tryz.prog 144 := Ent.of Tryz.func144 (by kernel_rfl) rfl
theorem en145 : Ent Tryz.prog 145 := Ent.of Tryz.func145 (by kernel_rfl) rfl
theorem en170 : Ent Tryz.prog 170 := Ent.of Tryz.func170 (by kernel_rfl) rfl
theorem fo191_0 : fOff Tryz.prog 191 0 = some (0, 189) := by kernel_rfl
theorem fo191_1 : fOff Tryz.prog 191 1 = some (1, 92) := by kernel_rfl
theorem sf92 : SlFact Tryz.prog 92 5 1 1 := SlFact.of (by kernel_rfl)
theorem sl92 : slElem Tryz.prog 92 = some (5, 1) := by kernel_rfl
theorem ty189 : tySz Tryz.prog 189 = some (false, 1) := by kernel_rfl
theorem ty191 : tySz Tryz.prog 191 = some (true, 2) := by kernel_rfl
theorem ty92 : tySz Tryz.prog 92 = some (false, 1) := by kernel_rfl
abbrev bys (l : List UInt8) : List (List AV) := l.map fun c => [C c]
theorem noesc (a : Value) (w : World) : (callFunc 187 #[a]).run Tryz.prog w = .ok (.value a) w := by
  rw [run_callFunc_extern (fn := Tryz.f187) (e := Extern.AbiNoEscape.same) Tryz.func187 (by decide) rfl rfl rfl]
  rfl
theorem pt189 : Tryz.prog.underlying 189 = some (.pointer (Tryz.prog.pointee 189)) := by kernel_rfl
theorem in191 : ∃ ji, Tryz.prog.info? 191 = some ji ∧ ji.size ≠ 0 := by
  have h := ty191
  unfold tySz at h
  split at h
  · rename_i d i h1 h2
    simp only [Option.some.injEq, Prod.mk.injEq] at h
    exact ⟨i, h2, by omega⟩
  · cases h
theorem lies191 : liesAt Tryz.prog Tryz.prog.depth 191 (2 / Tryz.prog.cellsOf 191) 0 191 1 = true := by kernel_rfl
theorem cell5 : Tryz.prog.cellsOf 5 = 1 := by kernel_rfl
theorem set_wb {α : Type} {H : List α} {k j : Nat} {a b t : α} (h : k ≠ j) : ((H.set k a).set j t).set k b = (H.set k b).set j t := by rw [List.set_comm _ _ h, List.set_set, List.set_comm _ _ h.symm]
theorem hsub_tok {H : List AObj} {j n m : Nat} (hj : H[j]? = some (.tok n)) : HSub H (H.set j (.tok m)) := fun i o h hn => by
  rw [List.getElem?_set_ne (fun e => by subst e; rw [hj] at h; cases h; exact hn _ rfl)]; exact h
theorem set_same {α : Type} {l : List α} {i : Nat} {a : α} (h : l[i]? = some a) : l.set i a = l := by
  have hi := lt_of_get? h
  rw [List.getElem?_eq_getElem hi, Option.some.injEq] at h
  rw [← h]; exact List.set_getElem_self hi
theorem copycheck_nil {H : List AObj} {k : Nat} {a : AV} (hk : H[k]? = some (.tcells 191 [.raw (.pointer none), a])) : ACall Tryz.prog 170 [.ptr k 0] H (fun x H' => x = .ret (.tup []) ∧ H' = H.set k (.tcells 191 [.ptr k 0, a])) := by
  refine acall_of (rs := []) Tryz.func170 rfl rfl (Nat.le_of_ble_eq_true rfl) fun e0 he0 => ?_
  refine aw_seq (aw_region (sq_ev rfl (ev_mv (v := .ptr _ _) J) ?_))
  refine sq_ev rfl (ev_nilCheck J) ?_
  refine sq_ev rfl (ev_fieldAddr fo191_0 J) ?_
  refine sq_ev rfl (ev_load_t J hk ty189 rfl) ?_
  refine sq_ev rfl (ev_ptr_nil pt189 J J) ?_
  refine sq_nil ?_
  refine aw_true J ?_
  obtain ⟨ji, hi1, hi2⟩ := in191
  refine aw_region (sq_ev rfl (ev_mv (v := .ptr _ _) J) ?_)
  refine sq_ev rfl (ev_mv (v := .ptr _ _) J) ?_
  refine sq_ev rfl (ev_toUnsafe Tryz.underlying189 Tryz.underlying238 hi1 hi2 J hk (Nat.succ_pos _)) ?_
  refine sq_ev rfl (ev_same noesc J J) ?_
  refine sq_ev rfl (ev_fromUnsafe Tryz.underlying238 Tryz.underlying189 hi1 J hk lies191) ?_
  refine sq_ev rfl (ev_nilCheck J) ?_
  refine sq_ev rfl (ev_fieldAddr fo191_0 J) ?_
  refine sq_store_t rfl J J rfl hk ty189 rfl rfl ?_
  refine sq_nil ?_
  exact ⟨rfl, .tup [], rfl, rfl, rfl⟩
theorem copycheck_self {H : List AObj} {k : Nat} {a : AV} (hk : H[k]? = some (.tcells 191 [.ptr k 0, a])) : ACall Tryz.prog 170 [.ptr k 0] H (fun x H' => x = .ret (.tup []) ∧ H' = H.set k (.tcells 191 [.ptr k 0, a])) := by
 refine acall_of (rs := []) Tryz.func170 rfl rfl (Nat.le_of_ble_eq_true rfl) fun e0 he0 => ?_
 refine aw_seq (aw_region (sq_ev rfl (ev_mv (v := .ptr _ _) J) ?_))
 refine sq_ev rfl (ev_nilCheck J) ?_
 refine sq_ev rfl (ev_fieldAddr fo191_0 J) ?_
 refine sq_ev rfl (ev_load_t J hk ty189 rfl) ?_
 refine sq_ev rfl (ev_ptr_some pt189 J J) ?_
 refine sq_nil ?_
 refine aw_false J ?_
 refine aw_seq ?_
 obtain ⟨ji, hi1, hi2⟩ := in191
 refine aw_region (sq_ev rfl (ev_mv (v := .ptr _ _) J) ?_)
 refine sq_ev rfl (ev_nilCheck J) ?_
 refine sq_ev rfl (ev_fieldAddr fo191_0 J) ?_
 refine sq_ev rfl (ev_load_t J hk ty189 rfl) ?_
 refine sq_ev rfl (ev_mv (v := .ptr _ _) J) ?_
 refine sq_ev rfl (ev_ptr_same Tryz.underlying189 hi1 J J) ?_
 refine sq_nil ?_
 refine aw_false J ?_
 refine aw_skip ?_
 exact ⟨rfl, .tup [], rfl, rfl, (set_same hk).symm⟩
theorem copycheck_call {H : List AObj} {k : Nat} {b a : AV} (hb : b = .raw (.pointer none) ∨ b = .ptr k 0) (hk : H[k]? = some (.tcells 191 [b, a])) :
    ACall Tryz.prog 170 [.ptr k 0] H (fun x H' => x = .ret (.tup []) ∧ H' = H.set k (.tcells 191 [.ptr k 0, a])) := by
  rcases hb with rfl | rfl
  · exact copycheck_nil hk
  · exact copycheck_self hk
theorem writebyte_call {H : List AObj} {k j : Nat} {b : AV} {l : List UInt8} {c : UInt8} (hb : b = .raw (.pointer none) ∨ b = .ptr k 0) (hk : H[k]? = some (.tcells 191 [b, .ownb j 1 5 (bys l)])) (hj : H[j]? = some (.tok l.length)) (hl : l.length ≤ 1000000) : ACall Tryz.prog 144 [.ptr k 0, C c] H (fun x H' => x = .ret (.raw .nilIface) ∧ H' = (H.set k (.tcells 191 [.ptr k 0, .ownb j 1 5 (bys (l ++ [c]))])).set j (.tok (l ++ [c]).length)) := by
  refine acall_of (rs := [.tmp 4]) Tryz.func144 rfl rfl (Nat.le_of_ble_eq_true rfl) fun e0 he0 => ?_
  refine aw_seq (aw_region (asr J rfl (sq_nil (aw_seq ?_))))
  have hkj : k ≠ j := fun h => by rw [h, hj] at hk; cases hk
  have hkl := lt_of_get? hk
  refine aw_region (sq_ev rfl (ev_mv (v := .ptr _ _) J) ?_)
  refine sq_call (args := [.ptr k 0]) rfl en170 J ⟨J, trivial⟩ (copycheck_call hb hk) ?_ (by rintro v H' ⟨h, _⟩; cases h)
  rintro _ _ ⟨h, rfl⟩
  cases h
  refine sq_nil (aw_seq ?_)
  have hk1 : (H.set k (.tcells 191 [.ptr k 0, .ownb j 1 5 (bys l)]))[k]? = some (.tcells 191 [.ptr k 0, .ownb j 1 5 (bys l)]) := List.getElem?_set_self hkl
  have hj1 : (H.set k (.tcells 191 [.ptr k 0, .ownb j 1 5 (bys l)]))[j]? = some (.tok (bys l).length) := by rw [List.getElem?_set_ne hkj, hj, List.length_map]
  refine aw_region (sq_ev rfl (ev_mv (v := .ptr _ _) J) ?_)
  refine sq_ev rfl (ev_mv (v := .ptr _ _) J) ?_
  refine sq_ev rfl (ev_nilCheck J) ?_
  refine sq_ev rfl (ev_fieldAddr fo191_1 J) ?_
  refine sq_ev rfl (ev_load_t J hk1 ty92 rfl) ?_
  refine mvr J rfl (sq_ev rfl (ev_buildSlice (es := [[_]]) sf92 rfl rfl rfl rfl) ?_)
  refine sq_append_b (xs := [[C c]]) rfl sf92 Tryz.underlying92 rfl hj1 (less_slx _ _) (Nat.succ_pos _) (by simp; omega) (by simp; omega) ?_
  refine sq_ev rfl (ev_nilCheck J) ?_
  refine sq_ev rfl (ev_fieldAddr fo191_1 J) ?_
  have hk2 : ((H.set k (.tcells 191 [.ptr k 0, .ownb j 1 5 (bys l)])).set j (.tok (bys l ++ [[C c]]).length))[k]? = some (.tcells 191 [.ptr k 0, .ownb j 1 5 (bys l)]) := by rw [List.getElem?_set_ne (Ne.symm hkj), hk1]
  refine sq_store_t rfl J J rfl hk2 ty92 rfl rfl ?_
  refine sq_nil (aw_seq (aw_region (asr J rfl (sq_nil (aw_ret ?_)))))
  exact retQ_any (vs := [.raw _]) rfl rfl ⟨resVar_tmp _ _ _, trivial⟩ (⟨rfl, by show (((H.set k (.tcells 191 [.ptr k 0, .ownb j 1 5 (bys l)])).set j (.tok (bys l ++ [[C c]]).length)).set k (.tcells 191 [.ptr k 0, .ownb j 1 5 (bys l ++ [[C c]])])) = _; rw [set_wb hkj]; simp⟩)
theorem bstring_call {H : List AObj} {k j : Nat} {b : AV} {l : List UInt8} (hk : H[k]? = some (.tcells 191 [b, .ownb j 1 5 (bys l)])) (hj : H[j]? = some (.tok l.length)) (hne : l ≠ []) (hl : l.length ≤ 1000000) : ACall Tryz.prog 145 [.ptr k 0] H (fun x H' => x = .ret (S l) ∧ H' = H.set j (.tok (l.length + 1))) := by
 refine acall_of (rs := [.tmp 2]) Tryz.func145 rfl rfl (Nat.le_of_ble_eq_true rfl) fun e0 he0 => ?_
 refine aw_seq (aw_region (asr J rfl (sq_nil (aw_seq ?_))))
 have hne' : bys l ≠ [] := fun h => hne (List.map_eq_nil_iff.1 h)
 refine aw_drawc [] [10] _ mo (by kernel_rfl) (HSub.refl _) ?_
 refine dc_ev rfl (ev_mv (v := .ptr _ _) J) ?_
 refine dc_ev rfl (ev_nilCheck J) ?_
 refine dc_ev rfl (ev_fieldAddr fo191_1 J) ?_
 refine dc_ev rfl (ev_load_t J hk ty92 rfl) ?_
 refine dc_ev rfl (ev_unsafeData_map J hne) ?_
 refine dc_ev rfl (ev_mv (v := .ptr _ _) J) ?_
 refine dc_ev rfl (ev_nilCheck J) ?_
 refine dc_ev rfl (ev_fieldAddr fo191_1 J) ?_
 refine dc_ev rfl (ev_load_t J hk ty92 rfl) ?_
 refine dc_ev rfl (ev_len_ownb_map sl92 J) ?_
 refine dc_eff rfl rfl (eff_unsafeString (pt := 227) (f := 1) rfl J J hne hk rfl hj Tryz.underlying227 cell5 (by omega)) (hsub_tok hj) ?_
 refine dc_ev rfl (ev_as (v := .raw _) J) ?_
 refine dc_nil (aw_ret ?_)
 exact retQ_any (vs := [.raw _]) rfl rfl ⟨resVar_tmp _ _ _, trivial⟩ (⟨rfl, rfl⟩)
end Go.Proofs.YtmbknoaneglilaaGreatDoor
