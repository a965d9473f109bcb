/-
  A part of the proof: conditions: none beyond each theorem's own.
-/
import Derived.Test.YtjghdbdiejaacaaGreatDoorLogicC
import Derived.Test.YtjghdbdiejaacaaGreatDoorSpecA
import Derived.KernelRfl
import Derived.Lib.LaidTab
import Derived.Lib.ItoaNum
import Derived.Test.YtjghdbdiejaacaaGreatDoorProg
set_option linter.all false
namespace Go.Proofs.YtjghdbdiejaacaaGreatDoor
open Go Go.Ab Ni
theorem lr [Tabs] (a : AV) : Less a a := Less.rfl' a
theorem qq : (∀ (p : Prop) [Decidable p], (decide p = true) = p) ∧ (∀ (p : Prop) [Decidable p], decide p = false ↔ ¬p) ∧ (∀ b : Bool, ((!b) = true) = (b = false)) ∧ (∀ b : Bool, ((!b) = false) = (b = true)) ∧ (∀ a b : Bool, ((a && b) = true) = (a = true ∧ b = true)) ∧ (∀ a b : Bool, ((a || b) = true) = (a = true ∨ b = true)) ∧ (∀ a b : Bool, (a && b) = false ↔ a = false ∨ b = false) ∧ (∀ a b : Bool, (a || b) = false ↔ a = false ∧ b = false) ∧ (!true) = false ∧ (!false) = true ∧ (∀ {α β : Type} (f : α → β) (l : List α), (l.map f).length = l.length) ∧ (∀ {α : Type} (a b : α), (a ≠ b) = ¬(a = b)) ∧ (∀ (p : Prop) [Decidable p], ¬¬p ↔ p) :=
  ⟨fun p _ => decide_eq_true_eq, fun p _ => decide_eq_false_iff_not, fun b => Bool.not_eq_true' b, fun b => Bool.not_eq_false' b, fun a b => Bool.and_eq_true a b, fun a b => Bool.or_eq_true a b, fun _ _ => Bool.and_eq_false_iff, fun _ _ => Bool.or_eq_false_iff, rfl, rfl, fun f l => List.length_map f, fun _ _ => rfl, fun p _ => Decidable.not_not⟩
theorem mvr [Tabs] {c : Ctx} {ops : Array Oper} {Q : AExit → St → Prop} {i : Nat} {rest : List Oper} {s : St} {d : Option Tmp} {x : Operand} {t : TypeId} {p : String} {af : Array Edge} {v : Value} (h : Less (s.op x) (.raw v)) (hd : dOK c.nt d = true) (k : SeqWP c ops Q (i + 1) rest (s.put d (.raw v))) : SeqWP c ops Q i (⟨d, .move x, t, p, af, none⟩ :: rest) s := sq_ev hd (ev_mv h) k
theorem asr [Tabs] {c : Ctx} {ops : Array Oper} {Q : AExit → St → Prop} {i : Nat} {rest : List Oper} {s : St} {d : Option Tmp} {x : Operand} {t : TypeId} {p : String} {af : Array Edge} {v : Value} (h : Less (s.op x) (.raw v)) (hd : dOK c.nt d = true) (k : SeqWP c ops Q (i + 1) rest (s.put d (.raw v))) : SeqWP c ops Q i (⟨d, .assign x, t, p, af, none⟩ :: rest) s := sq_ev hd (ev_as h) k
/-- what the library's own tables hold: internal/bytealg.MaxLen some number, internal/strconv.uint64pow10 the powers of ten -/
instance tabs : Tabs where
  blk b := b = 1 ∨ Tryz.prog.globalNamed "internal/strconv.uint64pow10" = some b
  is w := (∃ m, w.cell? ⟨1, 0, none⟩ = some (.int .i64 m)) ∧ Lib.TabIs Tryz.prog w "internal/strconv.uint64pow10" .u64 Lib.pow10Tab
  mono h k := ⟨by obtain ⟨m, hm⟩ := k.1; exact ⟨m, by have e := h 1 (.inl rfl); unfold World.cell? at hm ⊢; simp only [e]; exact hm⟩, by
    have k2 := k.2
    unfold Lib.TabIs World.var? at k2 ⊢
    cases hg : Tryz.prog.globalNamed "internal/strconv.uint64pow10" with
    | none => rw [hg] at k2; exact k2
    | some g => rw [hg] at k2; simp only [Option.bind_some] at k2 ⊢; rw [h g (.inr hg)]; exact k2⟩
abbrev I (n : Int) : AV := .raw (.int .i64 n)
abbrev B (b : Bool) : AV := .raw (.bool b)
abbrev ints (l : List Int) : AV := .sl 1 (l.map fun x => [I x])
abbrev nats (l : List Nat) : AV := .sl 1 (l.map fun (x : Nat) => [I x])
abbrev natss (l : List (List Nat)) : AV := .sl 1 (l.map fun x => [nats x])
abbrev sc (x : Sc) : List AV := [I x.part, I x.least, I x.most, B x.loose, I x.wants]
abbrev spanC (lo hi : Int) : List AV := [I lo, I hi]
abbrev planC (p : Pl) : List AV := [I p.beg, I p.s0l, I p.s0h, I p.s1l, I p.s1h, I p.dl, I p.dh, .sl 5 (p.scenes.map sc)]
abbrev plan (p : Pl) : AV := .agg (planC p)

theorem wr {n : Int} (h1 : -9223372036854775808 ≤ n) (h2 : n ≤ 9223372036854775807) : IntKind.i64.wrap n = n := IntWalk.i64_in _ ⟨h1, h2⟩
theorem ar24 : arrElem Tryz.prog 24 = some (2, 23, 2) := by kernel_rfl
theorem fo23_0 : fOff Tryz.prog 23 0 = some (0, 3) := by kernel_rfl
theorem fo23_1 : fOff Tryz.prog 23 1 = some (1, 3) := by kernel_rfl
theorem fo27_0 : fOff Tryz.prog 27 0 = some (0, 3) := by kernel_rfl
theorem fo27_1 : fOff Tryz.prog 27 1 = some (1, 24) := by kernel_rfl
theorem fo27_2 : fOff Tryz.prog 27 2 = some (5, 23) := by kernel_rfl
theorem fo27_3 : fOff Tryz.prog 27 3 = some (7, 25) := by kernel_rfl
theorem fo84_0 : fOff Tryz.prog 84 0 = some (0, 3) := by kernel_rfl
theorem fo84_1 : fOff Tryz.prog 84 1 = some (1, 3) := by kernel_rfl
theorem fo84_2 : fOff Tryz.prog 84 2 = some (2, 3) := by kernel_rfl
theorem fo84_3 : fOff Tryz.prog 84 3 = some (3, 4) := by kernel_rfl
theorem fo84_4 : fOff Tryz.prog 84 4 = some (4, 3) := by kernel_rfl
theorem mo : Tryz.prog.follows .mixedOrders = true := by kernel_rfl
theorem sl25 : slElem Tryz.prog 25 = some (84, 5) := by kernel_rfl
theorem sl34 : slElem Tryz.prog 34 = some (3, 1) := by kernel_rfl
theorem ty23 : tySz Tryz.prog 23 = some (true, 2) := by kernel_rfl
theorem ty25 : tySz Tryz.prog 25 = some (false, 1) := by kernel_rfl
theorem ty27 : tySz Tryz.prog 27 = some (true, 8) := by kernel_rfl
theorem ty3 : tySz Tryz.prog 3 = some (false, 1) := by kernel_rfl
theorem ty4 : tySz Tryz.prog 4 = some (false, 1) := by kernel_rfl
theorem ty84 : tySz Tryz.prog 84 = some (true, 5) := by kernel_rfl
theorem z84 : zeroOf Tryz.prog 84 = some [.raw (.int .i64 0), .raw (.int .i64 0), .raw (.int .i64 0), .raw (.bool false), .raw (.int .i64 0)] := by kernel_rfl

end Go.Proofs.YtjghdbdiejaacaaGreatDoor

namespace Go.Proofs.YtjghdbdiejaacaaGreatDoor
open Go Go.Ab Ni
theorem ar120 : arrElem Tryz.prog 120 = some (3, 23, 2) := by kernel_rfl
theorem bi23 : bldInfo Tryz.prog 23 = some ([.raw (.int .i64 0), .raw (.int .i64 0)], true, [(0, 1), (1, 1)], 0) := by kernel_rfl
theorem ty120 : tySz Tryz.prog 120 = some (true, 6) := by kernel_rfl
theorem z120 : zeroOf Tryz.prog 120 = some [.raw (.int .i64 0), .raw (.int .i64 0), .raw (.int .i64 0), .raw (.int .i64 0), .raw (.int .i64 0), .raw (.int .i64 0)] := by kernel_rfl
theorem z23 : zeroOf Tryz.prog 23 = some [.raw (.int .i64 0), .raw (.int .i64 0)] := by kernel_rfl

end Go.Proofs.YtjghdbdiejaacaaGreatDoor

namespace Go.Proofs.YtjghdbdiejaacaaGreatDoor
open Go Go.Ab Ni
theorem inE_nats (n : Nat) (l : List (List Nat)) : AV.inE n (l.map fun x => [nats x]) = true := inE_map fun x _ => by simp [AV.inL, AV.inB, inE_map]
theorem sf30 : SlFact Tryz.prog 30 34 1 24 := SlFact.of (by kernel_rfl)
theorem sf34 : SlFact Tryz.prog 34 3 1 8 := SlFact.of (by kernel_rfl)

end Go.Proofs.YtjghdbdiejaacaaGreatDoor

namespace Go.Proofs.YtjghdbdiejaacaaGreatDoor
open Go Go.Ab Ni
theorem nats_ints (l : List Nat) : nats l = ints (up l) := by simp [up, List.map_map]
theorem sl30 : slElem Tryz.prog 30 = some (34, 1) := by kernel_rfl
theorem ty34 : tySz Tryz.prog 34 = some (false, 1) := by kernel_rfl

end Go.Proofs.YtjghdbdiejaacaaGreatDoor

namespace Go.Proofs.YtjghdbdiejaacaaGreatDoor
open Go Go.Ab Ni
def sameBad (a b : List Int) (h : a.length = b.length) (i : Nat) (hi : i < a.length) : Bool := !decide (a[i] = b[i]'(by omega))
theorem same_okAll {a b : List Int} (h : a.length = b.length) : okAll a.length (sameBad a b h) = decide (a = b) := by
  rw [Bool.eq_iff_iff, okAll_iff, decide_eq_true_eq]
  constructor
  · intro k
    exact List.ext_getElem h fun i h1 h2 => by have := k i h1; simpa [sameBad] using this
  · rintro rfl i hi; simp [sameBad]
theorem en27 : Ent Tryz.prog 27 := Ent.of Tryz.func27 (by kernel_rfl) rfl
set_option maxHeartbeats 400000 in
/-- kelir/kelirref01.Same -/
theorem same_pure (a b : List Int) (ha : a.length ≤ 100000000) (hb : b.length ≤ 100000000) : APure Tryz.prog 27 [ints a, ints b] (B (decide (a = b))) := by
 refine apure_of (rs := [.tmp 4]) Tryz.func27 rfl rfl (Nat.le_of_ble_eq_true rfl) (by simp [AV.pureL, AV.pureB, AV.pureE, pureE_map]) (rfl) fun e0 he0 => ?_
 refine aw_seq (aw_region ?_)
 refine asr (lr _) rfl ?_
 refine sq_nil (aw_seq (aw_seq (aw_region ?_)))
 refine sq_ev rfl (ev_mv (v := .sl _ _) (lr _)) ?_
 refine sq_ev rfl (ev_len_map sl34 (lr _)) ?_
 refine sq_ev rfl (ev_mv (v := .sl _ _) (lr _)) ?_
 refine sq_ev rfl (ev_len_map sl34 (lr _)) ?_
 refine sq_ev rfl (ev_neq (lr _) (lr _)) ?_
 refine sq_nil ?_
 refine aw_cond (lr _) (fun c1 => ?_) (fun c1 => ?_)
 ·
  have c1' := c1
  try simp only [qq] at c1'
  refine aw_seq (aw_region ?_)
  refine asr (lr _) rfl ?_
  refine sq_nil (aw_ret ?_)
  exact retQ_pure (v := .raw _) rfl rfl (Less.eq (by rw [show decide (a = b) = false from (by simp only [decide_eq_false_iff_not]; rintro rfl; exact c1' rfl)]))
 ·
  have c1' := c1
  try simp only [qq] at c1'
  have hlen : a.length = b.length := by omega
  refine aw_skip (aw_seq (aw_seq (aw_region ?_)))
  refine asr (lr _) rfl ?_
  refine sq_nil (aw_block ?_)
  refine aw_loopk (ι := { k : Nat // k ≤ a.length ∧ ∀ i, (h : i < a.length) → i < k → sameBad a b hlen i h = false }) [0, 1] (fun i => [(5, I i.1)]) (fun H i => H) (fun i => a.length - i.1) (⟨0, Nat.zero_le _, by omega⟩) ⟨lr _, lr _, lr _, trivial⟩ rfl ?_
  rintro ⟨k, hk, hok⟩
  dsimp only [keepS, St.put, sget, slotsOf, List.map_cons, List.map_nil, List.cons_append, List.nil_append, List.length_cons, List.length_nil, Nat.reduceBEq, Nat.reduceAdd, cond_true, cond_false]
  refine aw_seq (aw_seq (aw_region ?_))
  refine mvr (lr _) rfl ?_
  refine sq_ev rfl (ev_mv (v := .sl _ _) (lr _)) ?_
  refine sq_ev rfl (ev_len_map sl34 (lr _)) ?_
  refine sq_ev rfl (ev_lss (lr _) (lr _)) ?_
  refine sq_nil ?_
  refine aw_cond (lr _) (fun c2 => ?_) (fun c2 => ?_)
  ·
   have c2' := c2
   try simp only [qq] at c2'
   refine aw_skip (aw_seq (aw_block (aw_seq ?_)))
   refine aw_draw 9 mo (by kernel_rfl) ?_
   refine dr_ev rfl (ev_mv (v := .sl _ _) (lr _)) ?_
   refine dr_ev rfl (ev_mv (v := .raw _) (lr _)) ?_
   refine dr_ev rfl (ev_index_map sl34 (lr _) (lr _) rfl (by omega)) ?_
   refine dr_ev rfl (ev_load_i (lr _) ty3 rfl) ?_
   refine dr_ev rfl (ev_mv (v := .sl _ _) (lr _)) ?_
   refine dr_ev rfl (ev_mv (v := .raw _) (lr _)) ?_
   refine dr_ev rfl (ev_index_map sl34 (lr _) (lr _) rfl (by omega)) ?_
   refine dr_ev rfl (ev_load_i (lr _) ty3 rfl) ?_
   refine dr_ev rfl (ev_neq (lr _) (lr _)) ?_
   refine dr_end (sq_nil ?_)
   refine aw_cond (lr _) (fun c3 => ?_) (fun c3 => ?_)
   ·
    have c3' := c3
    try simp only [qq] at c3'
    refine aw_seq (aw_region ?_)
    refine asr (lr _) rfl ?_
    refine sq_nil (aw_ret ?_)
    exact retQ_pure (v := .raw _) rfl rfl (Less.eq (by rw [← same_okAll hlen, okAll_bad (i := k) (by omega) (by first | (simp [sameBad, *]; done) | (simp_all [sameBad]; done))]))
   ·
    have c3' := c3
    try simp only [qq] at c3'
    refine aw_skip (aw_region ?_)
    refine mvr (lr _) rfl ?_
    refine sq_ev rfl (ev_add (lr _) (lr _) (wr (by omega) (by omega))) ?_
    refine asr (lr _) rfl ?_
    refine sq_nil ?_
    have hgood : sameBad a b hlen k (by omega) = false := by first | (simp [sameBad, *]; done) | (simp_all [sameBad]; done)
    exact ⟨⟨k + 1, by omega, fun i h hi => (by by_cases e : i = k; (subst e; exact hgood); exact hok i h (by omega))⟩, by simp only; omega, Sub.slots ⟨lr _, lr _, lr _, trivial⟩⟩
  ·
   have c2' := c2
   try simp only [qq] at c2'
   refine aw_exit (aw_seq (aw_region ?_))
   refine asr (lr _) rfl ?_
   refine sq_nil (aw_ret ?_)
   exact retQ_pure (v := .raw _) rfl rfl (Less.eq (by rw [← same_okAll hlen, okAll_end hk c2' hok]))

theorem up_inj {a b : List Nat} : up a = up b ↔ a = b := by
  constructor
  · intro h
    have : (up a).map Int.toNat = (up b).map Int.toNat := by rw [h]
    simpa [up, List.map_map, Function.comp_def] using this
  · rintro rfl; rfl
theorem same_pureN (a b : List Nat) (ha : a.length ≤ 1000) (hb : b.length ≤ 1000) : APure Tryz.prog 27 [nats a, nats b] (B (decide (a = b))) := by
  have := same_pure (up a) (up b) (by simp [up]; omega) (by simp [up]; omega)
  rw [← nats_ints, ← nats_ints] at this
  simpa [up_inj] using this
def samesBad (a b : List (List Nat)) (h : a.length = b.length) (i : Nat) (hi : i < a.length) : Bool := !decide (a[i] = b[i]'(by omega))
theorem sames_okAll {a b : List (List Nat)} (h : a.length = b.length) : okAll a.length (samesBad a b h) = decide (a = b) := by
  rw [Bool.eq_iff_iff, okAll_iff, decide_eq_true_eq]
  constructor
  · intro k
    exact List.ext_getElem h fun i h1 h2 => by have := k i h1; simpa [samesBad] using this
  · rintro rfl i hi; simp [samesBad]
set_option maxHeartbeats 400000 in
/-- kelir/kelirref03.SameLists -/
theorem sames_pure (a b : List (List Nat)) (ha : a.length ≤ 100000000) (hb : b.length ≤ 100000000) (hla : ∀ l ∈ a, l.length ≤ 1000) (hlb : ∀ l ∈ b, l.length ≤ 1000) : APure Tryz.prog 26 [natss a, natss b] (B (decide (a = b))) := by
  refine apure_of (rs := [.tmp 4]) Tryz.func26 rfl rfl (Nat.le_of_ble_eq_true rfl) (by simp [AV.pureL, AV.pureB, AV.pureE, pureE_map]) (rfl) fun e0 he0 => ?_
  refine aw_seq (aw_region ?_)
  refine asr (lr _) rfl ?_
  refine sq_nil (aw_seq (aw_seq (aw_region ?_)))
  refine sq_ev rfl (ev_mv (v := .sl _ _) (lr _)) ?_
  refine sq_ev rfl (ev_len_map sl30 (lr _)) ?_
  refine sq_ev rfl (ev_mv (v := .sl _ _) (lr _)) ?_
  refine sq_ev rfl (ev_len_map sl30 (lr _)) ?_
  refine sq_ev rfl (ev_neq (lr _) (lr _)) ?_
  refine sq_nil ?_
  refine aw_cond (lr _) (fun c1 => ?_) (fun c1 => ?_)
  · skip
    have c1' := c1
    try simp only [qq] at c1'
    refine aw_seq (aw_region ?_)
    refine asr (lr _) rfl ?_
    refine sq_nil (aw_ret ?_)
    exact retQ_pure (v := .raw _) rfl rfl (Less.eq (by rw [show decide (a = b) = false from (by simp only [decide_eq_false_iff_not]; rintro rfl; exact c1' rfl)]))
  · skip
    have c1' := c1
    try simp only [qq] at c1'
    have hlen : a.length = b.length := by omega
    refine aw_skip (aw_seq (aw_seq (aw_region ?_)))
    refine asr (lr _) rfl ?_
    refine sq_nil (aw_block ?_)
    refine aw_loopk (ι := { k : Nat // k ≤ a.length ∧ ∀ i, (h : i < a.length) → i < k → samesBad a b hlen i h = false }) [0, 1] (fun i => [(5, I i.1)]) (fun H i => H) (fun i => a.length - i.1) (⟨0, Nat.zero_le _, by omega⟩) ⟨lr _, lr _, lr _, trivial⟩ rfl ?_
    rintro ⟨k, hk, hok⟩
    dsimp only [keepS, St.put, sget, slotsOf, List.map_cons, List.map_nil, List.cons_append, List.nil_append, List.length_cons, List.length_nil, Nat.reduceBEq, Nat.reduceAdd, cond_true, cond_false]
    refine aw_seq (aw_seq (aw_region ?_))
    refine mvr (lr _) rfl ?_
    refine sq_ev rfl (ev_mv (v := .sl _ _) (lr _)) ?_
    refine sq_ev rfl (ev_len_map sl30 (lr _)) ?_
    refine sq_ev rfl (ev_lss (lr _) (lr _)) ?_
    refine sq_nil ?_
    refine aw_cond (lr _) (fun c2 => ?_) (fun c2 => ?_)
    · skip
      have c2' := c2
      try simp only [qq] at c2'
      refine aw_skip (aw_seq (aw_block (aw_seq ?_)))
      refine aw_draw 10 mo (by kernel_rfl) ?_
      refine dr_ev rfl (ev_mv (v := .sl _ _) (lr _)) ?_
      refine dr_ev rfl (ev_mv (v := .raw _) (lr _)) ?_
      refine dr_ev rfl (ev_index_map sl30 (lr _) (lr _) rfl (by omega)) ?_
      refine dr_ev rfl (ev_load_i (lr _) ty34 rfl) ?_
      refine dr_ev rfl (ev_mv (v := .sl _ _) (lr _)) ?_
      refine dr_ev rfl (ev_mv (v := .raw _) (lr _)) ?_
      refine dr_ev rfl (ev_index_map sl30 (lr _) (lr _) rfl (by omega)) ?_
      refine dr_ev rfl (ev_load_i (lr _) ty34 rfl) ?_
      refine dr_ev rfl (ev_call en27 (lr _) (same_pureN _ _ (hla _ (List.getElem_mem (show k < a.length by omega))) (hlb _ (List.getElem_mem (show k < b.length by omega)))) ⟨lr _, lr _, trivial⟩) ?_
      refine dr_ev rfl (ev_not (lr _)) ?_
      refine dr_end (sq_nil ?_)
      refine aw_cond (lr _) (fun c3 => ?_) (fun c3 => ?_)
      · skip
        have c3' := c3
        try simp only [qq] at c3'
        refine aw_seq (aw_region ?_)
        refine asr (lr _) rfl ?_
        refine sq_nil (aw_ret ?_)
        exact retQ_pure (v := .raw _) rfl rfl (Less.eq (by rw [← sames_okAll hlen, okAll_bad (i := k) (by omega) (by first | (simp [samesBad, *]; done) | (simp_all [samesBad]; done))]))
      · skip
        have c3' := c3
        try simp only [qq] at c3'
        refine aw_skip (aw_region ?_)
        refine mvr (lr _) rfl ?_
        refine sq_ev rfl (ev_add (lr _) (lr _) (wr (by omega) (by omega))) ?_
        refine asr (lr _) rfl ?_
        refine sq_nil ?_
        have hgood : samesBad a b hlen k (by omega) = false := by first | (simp [samesBad, *]; done) | (simp_all [samesBad]; done)
        exact ⟨⟨k + 1, by omega, fun i h hi => (by by_cases e : i = k; (subst e; exact hgood); exact hok i h (by omega))⟩, by simp only; omega, Sub.slots ⟨lr _, lr _, lr _, trivial⟩⟩
    · skip
      have c2' := c2
      try simp only [qq] at c2'
      refine aw_exit (aw_seq (aw_region ?_))
      refine asr (lr _) rfl ?_
      refine sq_nil (aw_ret ?_)
      exact retQ_pure (v := .raw _) rfl rfl (Less.eq (by rw [← sames_okAll hlen, okAll_end hk c2' hok]))


end Go.Proofs.YtjghdbdiejaacaaGreatDoor

namespace Go.Proofs.YtjghdbdiejaacaaGreatDoor
open Go Go.Ab Ni
theorem sf25 : SlFact Tryz.prog 25 84 5 40 := SlFact.of (by kernel_rfl)
theorem z27 : zeroOf Tryz.prog 27 = some [.raw (.int .i64 0), .raw (.int .i64 0), .raw (.int .i64 0), .raw (.int .i64 0), .raw (.int .i64 0), .raw (.int .i64 0), .raw (.int .i64 0), .raw (.slice none 0 0)] := by kernel_rfl

theorem flat_len (L : List Sc) : ((L.map sc).flatten).length = L.length * 5 := by
  induction L with
  | nil => rfl
  | cons x L ih => simp only [List.map_cons, List.flatten_cons, List.length_append, ih, List.length_cons]; simp; omega
theorem splice2 (n : Int) : ∀ (L : List Sc) (k : Nat) (h : k < L.length) (R : List AV) (l l1 : List AV), l = (L.map sc).flatten ++ R → l1 = l.take (k * 5 + 1) ++ [I n] ++ l.drop (k * 5 + 1 + 1) →
    l1.take (k * 5 + 2) ++ [I n] ++ l1.drop (k * 5 + 2 + 1) = ((L.set k (fixS L[k] n)).map sc).flatten ++ R
  | x :: L, 0, h, R, l, l1, hl, hl1 => by subst hl; subst hl1; simp [fixS]
  | x :: L, k + 1, h, R, l, l1, hl, hl1 => by
    have ih := splice2 n L k (by simpa using h) R _ _ rfl rfl
    subst hl
    have e1 : (k + 1) * 5 + 1 = k * 5 + 1 + 1 + 1 + 1 + 1 + 1 := by omega
    have e2 : (k + 1) * 5 + 2 = k * 5 + 2 + 1 + 1 + 1 + 1 + 1 := by omega
    rw [e1] at hl1
    rw [e2]
    simp only [List.map_cons, List.flatten_cons, List.cons_append, List.nil_append, List.take_succ_cons, List.drop_succ_cons] at hl1
    subst hl1
    simp only [List.take_succ_cons, List.drop_succ_cons, List.cons_append, List.set_cons_succ, List.map_cons, List.flatten_cons, List.nil_append, List.getElem_cons_succ]
    rw [← ih]
end Go.Proofs.YtjghdbdiejaacaaGreatDoor

namespace Go.Proofs.YtjghdbdiejaacaaGreatDoor
open Go Go.Ab Ni
theorem en122 : Ent Tryz.prog 122 := Ent.of Tryz.func122 (by kernel_rfl) rfl
theorem en133 : Ent Tryz.prog 133 := Ent.of Tryz.func133 (by kernel_rfl) rfl

set_option maxHeartbeats 400000 in
/-- kelir/night.in -/
theorem nin_pure (n a b : Int) : APure Tryz.prog 122 [I n, I a, I b] (B (inn n a b)) := by
 refine apure_of (rs := [.tmp 6]) Tryz.func122 rfl rfl (Nat.le_of_ble_eq_true rfl) (by simp [AV.pureL, AV.pureB, AV.pureE, pureE_map]) (rfl) fun e0 he0 => ?_
 refine aw_seq (aw_region ?_)
 refine asr (lr _) rfl ?_
 refine sq_nil (aw_seq (aw_region ?_))
 refine mvr (lr _) rfl ?_
 refine mvr (lr _) rfl ?_
 refine sq_ev rfl (ev_geq (lr _) (lr _)) ?_
 refine mvr (lr _) rfl ?_
 refine sq_split 10 (lr _) (fun g1 => ?_) (fun g1 => ?_)
 ·
  have g1' := g1
  try simp only [qq] at g1'
  refine sq_yes rfl rfl (less_b g1) rfl (ev_mv (v := .raw _) (lr _)) ?_
  refine sq_yes rfl rfl (less_b g1) rfl (ev_mv (v := .raw _) (lr _)) ?_
  refine sq_yes rfl rfl (less_b g1) rfl (ev_leq (lr _) (lr _)) ?_
  refine sq_ev rfl (ev_pickT (v := .raw _) (less_b g1) (lr _)) ?_
  refine asr (lr _) rfl ?_
  refine sq_nil (aw_ret ?_)
  exact retQ_pure (v := .raw _) rfl rfl (Less.eq (by simp [inn, *]))
 ·
  have g1' := g1
  try simp only [qq] at g1'
  refine sq_no rfl rfl (less_b g1) rfl rfl ?_
  refine sq_no rfl rfl (less_b g1) rfl rfl ?_
  refine sq_no rfl rfl (less_b g1) rfl rfl ?_
  refine sq_ev rfl (ev_pickF (v := .raw _) (less_b g1) (lr _)) ?_
  refine asr (lr _) rfl ?_
  refine sq_nil (aw_ret ?_)
  exact retQ_pure (v := .raw _) rfl rfl (Less.eq (by simp [inn, *]))

set_option maxHeartbeats 400000 in
/-- kelir/night.window -/
theorem nwindow0_pure (p : Pl) : APure Tryz.prog 142 [plan p, I 0] (.agg (spanC p.s0l p.s0h)) := by
 refine apure_of (rs := [.cell 4 23]) Tryz.func142 rfl rfl (Nat.le_of_ble_eq_true rfl) (by simp [AV.pureL, AV.pureB, AV.pureE, pureE_map]) (rfl) fun e0 he0 => ?_
 refine aw_seq (aw_region ?_)
 refine sq_box rfl (lr _) rfl ?_
 refine sq_alloc rfl z23 ?_
 refine sq_nil (aw_seq (aw_seq (aw_region ?_)))
 refine mvr (lr _) rfl ?_
 refine sq_ev rfl (ev_lss (lr _) (lr _)) ?_
 refine sq_nil ?_
 refine aw_cond (lr _) (fun c1 => ?_) (fun c1 => ?_)
 ·
  have c1' := c1
  try simp only [qq] at c1'
  try exact absurd c1' (by decide)
  refine aw_seq (aw_region ?_)
  refine mvr (lr _) rfl ?_
  refine sq_ev rfl (ev_fieldAddr fo27_1 (lr _)) ?_
  refine sq_ev rfl (ev_index_box ar24 (lr _) (lr _) rfl (by decide)) ?_
  refine sq_ev rfl (ev_load_agg (lr _) rfl ty23 rfl) ?_
  refine sq_store rfl (lr _) (lr _) rfl rfl ty23 rfl rfl ?_
  refine sq_nil (aw_ret ?_)
  exact retQ_res (vs := [.agg _]) rfl rfl ⟨resVar_cell rfl rfl ty23 rfl, trivial⟩ (Less.eq (by simp))
 ·
  have c1' := c1
  try simp only [qq] at c1'
  try exact absurd (by decide) c1'

set_option maxHeartbeats 400000 in
/-- kelir/night.window -/
theorem nwindow1_pure (p : Pl) : APure Tryz.prog 142 [plan p, I 1] (.agg (spanC p.s1l p.s1h)) := by
 refine apure_of (rs := [.cell 4 23]) Tryz.func142 rfl rfl (Nat.le_of_ble_eq_true rfl) (by simp [AV.pureL, AV.pureB, AV.pureE, pureE_map]) (rfl) fun e0 he0 => ?_
 refine aw_seq (aw_region ?_)
 refine sq_box rfl (lr _) rfl ?_
 refine sq_alloc rfl z23 ?_
 refine sq_nil (aw_seq (aw_seq (aw_region ?_)))
 refine mvr (lr _) rfl ?_
 refine sq_ev rfl (ev_lss (lr _) (lr _)) ?_
 refine sq_nil ?_
 refine aw_cond (lr _) (fun c1 => ?_) (fun c1 => ?_)
 ·
  have c1' := c1
  try simp only [qq] at c1'
  try exact absurd c1' (by decide)
  refine aw_seq (aw_region ?_)
  refine mvr (lr _) rfl ?_
  refine sq_ev rfl (ev_fieldAddr fo27_1 (lr _)) ?_
  refine sq_ev rfl (ev_index_box ar24 (lr _) (lr _) rfl (by decide)) ?_
  refine sq_ev rfl (ev_load_agg (lr _) rfl ty23 rfl) ?_
  refine sq_store rfl (lr _) (lr _) rfl rfl ty23 rfl rfl ?_
  refine sq_nil (aw_ret ?_)
  exact retQ_res (vs := [.agg _]) rfl rfl ⟨resVar_cell rfl rfl ty23 rfl, trivial⟩ (Less.eq (by simp))
 ·
  have c1' := c1
  try simp only [qq] at c1'
  try exact absurd (by decide) c1'

set_option maxHeartbeats 400000 in
/-- kelir/night.window -/
theorem nwindow2_pure (p : Pl) : APure Tryz.prog 142 [plan p, I 2] (.agg (spanC p.dl p.dh)) := by
 refine apure_of (rs := [.cell 4 23]) Tryz.func142 rfl rfl (Nat.le_of_ble_eq_true rfl) (by simp [AV.pureL, AV.pureB, AV.pureE, pureE_map]) (rfl) fun e0 he0 => ?_
 refine aw_seq (aw_region ?_)
 refine sq_box rfl (lr _) rfl ?_
 refine sq_alloc rfl z23 ?_
 refine sq_nil (aw_seq (aw_seq (aw_region ?_)))
 refine mvr (lr _) rfl ?_
 refine sq_ev rfl (ev_lss (lr _) (lr _)) ?_
 refine sq_nil ?_
 refine aw_cond (lr _) (fun c1 => ?_) (fun c1 => ?_)
 ·
  have c1' := c1
  try simp only [qq] at c1'
  try exact absurd c1' (by decide)
 ·
  have c1' := c1
  try simp only [qq] at c1'
  try exact absurd (by decide) c1'
  refine aw_skip (aw_seq (aw_region ?_))
  refine sq_ev rfl (ev_fieldAddr fo27_2 (lr _)) ?_
  refine sq_ev rfl (ev_load_agg (lr _) rfl ty23 rfl) ?_
  refine sq_store rfl (lr _) (lr _) rfl rfl ty23 rfl rfl ?_
  refine sq_nil (aw_ret ?_)
  exact retQ_res (vs := [.agg _]) rfl rfl ⟨resVar_cell rfl rfl ty23 rfl, trivial⟩ (Less.eq (by simp))

theorem nwindow_pure (p : Pl) (k : Nat) (h : k < 3) : APure Tryz.prog 142 [plan p, I k] (.agg (spanC (wl p k) (wh p k))) := by
  rcases k with _ | _ | _ | k
  · exact nwindow0_pure p
  · exact nwindow1_pure p
  · exact nwindow2_pure p
  · omega

set_option maxHeartbeats 400000 in
/-- kelir/night.isWindow -/
theorem niswindow_pure (a b : Int) : APure Tryz.prog 141 [.agg [I a, I b]] (B (wnd a b)) := by
 refine apure_of (rs := [.tmp 2]) Tryz.func141 rfl rfl (Nat.le_of_ble_eq_true rfl) (by simp [AV.pureL, AV.pureB, AV.pureE, pureE_map]) (rfl) fun e0 he0 => ?_
 refine aw_seq (aw_region ?_)
 refine sq_box rfl (lr _) rfl ?_
 refine asr (lr _) rfl ?_
 refine sq_nil (aw_seq (aw_region ?_))
 refine sq_ev rfl (ev_fieldAddr fo23_0 (lr _)) ?_
 refine sq_ev rfl (ev_load (lr _) rfl ty3 rfl) ?_
 refine sq_ev rfl (ev_call en122 (lr _) (nin_pure _ _ _) ⟨lr _, lr _, lr _, trivial⟩) ?_
 refine mvr (lr _) rfl ?_
 refine sq_split 6 (lr _) (fun g1 => ?_) (fun g1 => ?_)
 ·
  have g1' := g1
  try simp only [qq] at g1'
  refine sq_yes rfl rfl (less_b g1) rfl (ev_fieldAddr fo23_1 (lr _)) ?_
  refine sq_yes rfl rfl (less_b g1) rfl (ev_load (lr _) rfl ty3 rfl) ?_
  refine sq_yes rfl rfl (less_b g1) rfl (ev_fieldAddr fo23_0 (lr _)) ?_
  refine sq_yes rfl rfl (less_b g1) rfl (ev_load (lr _) rfl ty3 rfl) ?_
  refine sq_yes rfl rfl (less_b g1) rfl (ev_call en122 (lr _) (nin_pure _ _ _) ⟨lr _, lr _, lr _, trivial⟩) ?_
  refine sq_ev rfl (ev_pickT (v := .raw _) (less_b g1) (lr _)) ?_
  refine mvr (lr _) rfl ?_
  refine sq_split 13 (lr _) (fun g2 => ?_) (fun g2 => ?_)
  ·
   have g2' := g2
   try simp only [qq] at g2'
   simp only [inn, Bool.and_eq_true, decide_eq_true_eq] at g1' g2'
   refine sq_yes rfl rfl (less_b g2) rfl (ev_fieldAddr fo23_1 (lr _)) ?_
   refine sq_yes rfl rfl (less_b g2) rfl (ev_load (lr _) rfl ty3 rfl) ?_
   refine sq_yes rfl rfl (less_b g2) rfl (ev_fieldAddr fo23_0 (lr _)) ?_
   refine sq_yes rfl rfl (less_b g2) rfl (ev_load (lr _) rfl ty3 rfl) ?_
   refine sq_yes rfl rfl (less_b g2) rfl (ev_sub (lr _) (lr _) (wr (by omega) (by omega))) ?_
   refine sq_yes rfl rfl (less_b g2) rfl (ev_leq (lr _) (lr _)) ?_
   refine sq_ev rfl (ev_pickT (v := .raw _) (less_b g2) (lr _)) ?_
   refine asr (lr _) rfl ?_
   refine sq_nil (aw_ret ?_)
   exact retQ_pure (v := .raw _) rfl rfl (Less.eq (by simp [wnd, *]))
  ·
   have g2' := g2
   try simp only [qq] at g2'
   refine sq_no rfl rfl (less_b g2) rfl rfl ?_
   refine sq_no rfl rfl (less_b g2) rfl rfl ?_
   refine sq_no rfl rfl (less_b g2) rfl rfl ?_
   refine sq_no rfl rfl (less_b g2) rfl rfl ?_
   refine sq_no rfl rfl (less_b g2) rfl rfl ?_
   refine sq_no rfl rfl (less_b g2) rfl rfl ?_
   refine sq_ev rfl (ev_pickF (v := .raw _) (less_b g2) (lr _)) ?_
   refine asr (lr _) rfl ?_
   refine sq_nil (aw_ret ?_)
   exact retQ_pure (v := .raw _) rfl rfl (Less.eq (by simp [wnd, *]))
 ·
  have g1' := g1
  try simp only [qq] at g1'
  refine sq_no rfl rfl (less_b g1) rfl rfl ?_
  refine sq_no rfl rfl (less_b g1) rfl rfl ?_
  refine sq_no rfl rfl (less_b g1) rfl rfl ?_
  refine sq_no rfl rfl (less_b g1) rfl rfl ?_
  refine sq_no rfl rfl (less_b g1) rfl rfl ?_
  refine sq_ev rfl (ev_pickF (v := .raw _) (less_b g1) (lr _)) ?_
  refine mvr (lr _) rfl ?_
  refine sq_no rfl rfl (lr _) rfl rfl ?_
  refine sq_no rfl rfl (lr _) rfl rfl ?_
  refine sq_no rfl rfl (lr _) rfl rfl ?_
  refine sq_no rfl rfl (lr _) rfl rfl ?_
  refine sq_no rfl rfl (lr _) rfl rfl ?_
  refine sq_no rfl rfl (lr _) rfl rfl ?_
  refine sq_ev rfl (ev_pickF (v := .raw _) (lr _) (lr _)) ?_
  refine asr (lr _) rfl ?_
  refine sq_nil (aw_ret ?_)
  exact retQ_pure (v := .raw _) rfl rfl (Less.eq (by simp [wnd, *]))

set_option maxHeartbeats 400000 in
/-- kelir/night.isScene -/
theorem nisscene_pure (p : Pl) (n : Int) (hl : p.scenes.length ≤ 1000000) : APure Tryz.prog 133 [plan p, I n] (B (isSc p n)) := by
 refine apure_of (rs := [.tmp 4]) Tryz.func133 rfl rfl (Nat.le_of_ble_eq_true rfl) (by simp [AV.pureL, AV.pureB, AV.pureE, pureE_map]) (rfl) fun e0 he0 => ?_
 refine aw_seq (aw_region ?_)
 refine sq_box rfl (lr _) rfl ?_
 refine asr (lr _) rfl ?_
 refine sq_nil (aw_seq (aw_region ?_))
 refine mvr (lr _) rfl ?_
 refine sq_ev rfl (ev_fieldAddr fo27_3 (lr _)) ?_
 refine sq_ev rfl (ev_load (lr _) rfl ty25 rfl) ?_
 refine sq_ev rfl (ev_len_map sl25 (lr _)) ?_
 refine sq_ev rfl (ev_sub (lr _) (lr _) (wr (by omega) (by omega))) ?_
 refine sq_ev rfl (ev_call en122 (lr _) (nin_pure _ _ _) ⟨lr _, lr _, lr _, trivial⟩) ?_
 refine asr (lr _) rfl ?_
 refine sq_nil (aw_ret ?_)
 exact retQ_pure (v := .raw _) rfl rfl (Less.eq (by simp [isSc]))

set_option maxHeartbeats 1000000 in
/-- kelir/night.areScenes -/
theorem narescenes_pure (p : Pl) (l : List Int) (hp : p.scenes.length ≤ 1000000) (hl : l.length ≤ 1000000) : APure Tryz.prog 139 [plan p, ints l] (B (Ris p l)) := by
 refine apure_of (rs := [.tmp 4]) Tryz.func139 rfl rfl (Nat.le_of_ble_eq_true rfl) (by simp [AV.pureL, AV.pureB, AV.pureE, pureE_map]) (rfl) fun e0 he0 => ?_
 refine aw_seq (aw_region ?_)
 refine sq_box rfl (lr _) rfl ?_
 refine asr (lr _) rfl ?_
 refine sq_nil (aw_seq (aw_seq (aw_region ?_)))
 refine sq_ev rfl (ev_mv (v := .sl _ _) (lr _)) ?_
 refine sq_ev rfl (ev_len_map sl34 (lr _)) ?_
 refine mvr (lr _) rfl ?_
 refine sq_nil (aw_block ?_)
 refine aw_loopk (ι := { k : Nat // k ≤ l.length ∧ ∀ i, (h : i < l.length) → i < k → risBad p l i h = false }) [1, 2, 7, 8] (fun i => [(9, I i.1)]) (fun H i => H) (fun i => l.length - i.1) (⟨0, Nat.zero_le _, by omega⟩) ⟨lr _, lr _, lr _, lr _, lr _, trivial⟩ rfl ?_
 rintro ⟨k, hk, hok⟩
 dsimp only [keepS, St.put, sget, slotsOf, List.map_cons, List.map_nil, List.cons_append, List.nil_append, List.length_cons, List.length_nil, Nat.reduceBEq, Nat.reduceAdd, cond_true, cond_false]
 refine aw_seq (aw_region ?_)
 refine sq_ev rfl (ev_lss (lr _) (lr _)) ?_
 refine sq_nil (aw_seq ?_)
 refine aw_cond (lr _) (fun c1 => ?_) (fun c1 => ?_)
 ·
  have c1' := c1
  try simp only [qq] at c1'
  refine aw_skip (aw_seq (aw_block (aw_seq (aw_region ?_))))
  refine mvr (lr _) rfl ?_
  refine sq_ev rfl (ev_index_map sl34 (lr _) (lr _) rfl (by omega)) ?_
  refine sq_ev rfl (ev_load_i (lr _) ty3 rfl) ?_
  refine asr (lr _) rfl ?_
  refine asr (lr _) rfl ?_
  refine sq_nil (aw_seq (aw_region ?_))
  refine sq_ev rfl (ev_load_agg (lr _) rfl ty27 rfl) ?_
  refine mvr (lr _) rfl ?_
  refine sq_ev rfl (ev_call en133 (lr _) (nisscene_pure _ _ hp) ⟨lr _, lr _, trivial⟩) ?_
  refine sq_ev rfl (ev_not (lr _)) ?_
  refine mvr (lr _) rfl ?_
  refine sq_split 18 (lr _) (fun g2 => ?_) (fun g2 => ?_)
  ·
   have g2' := g2
   try simp only [qq] at g2'
   refine sq_no rfl rfl (less_b g2) rfl rfl ?_
   refine sq_no rfl rfl (less_b g2) rfl rfl ?_
   refine sq_no rfl rfl (less_b g2) rfl rfl ?_
   refine sq_no rfl rfl (lr _) rfl rfl ?_
   refine sq_no rfl rfl (lr _) rfl rfl ?_
   refine sq_no rfl rfl (lr _) rfl rfl ?_
   refine sq_no rfl rfl (lr _) rfl rfl ?_
   refine sq_no rfl rfl (lr _) rfl rfl ?_
   refine sq_no rfl rfl (lr _) rfl rfl ?_
   refine sq_no rfl rfl (lr _) rfl rfl ?_
   refine sq_no rfl rfl (less_b g2) rfl rfl ?_
   refine sq_ev rfl (ev_pickT (v := .raw _) (less_b g2) (lr _)) ?_
   refine sq_nil ?_
   refine aw_true (lr _) ?_
   refine aw_seq (aw_region ?_)
   refine asr (lr _) rfl ?_
   refine sq_nil (aw_ret ?_)
   exact retQ_pure (v := .raw _) rfl rfl (Less.eq (by rw [Ris, okAll_bad (i := k) (by omega) (by first | (simp [risBad, *]; done) | (simp_all [risBad]; done))]))
  ·
   have g2' := g2
   try simp only [qq] at g2'
   refine sq_yes rfl rfl (less_b g2) rfl (ev_mv (v := .raw _) (lr _)) ?_
   refine sq_yes rfl rfl (less_b g2) rfl (ev_gtr (lr _) (lr _)) ?_
   refine sq_yes rfl rfl (less_b g2) rfl (ev_mv (v := .raw _) (lr _)) ?_
   refine sq_split 21 (lr _) (fun g3 => ?_) (fun g3 => ?_)
   ·
    have g3' := g3
    try simp only [qq] at g3'
    have g3n : 0 < k := by omega
    refine sq_yes rfl rfl (less_b g3) rfl (ev_mv (v := .raw _) (lr _)) ?_
    refine sq_yes rfl rfl (less_b g3) rfl (ev_mv (v := .sl _ _) (lr _)) ?_
    refine sq_yes rfl rfl (less_b g3) rfl (ev_mv (v := .raw _) (lr _)) ?_
    refine sq_yes rfl rfl (less_b g3) rfl (ev_sub (lr _) (lr _) (wr (by omega) (by omega))) ?_
    refine sq_yes rfl rfl (less_b g3) rfl (ev_index_map sl34 (lr _) (lr _) (show ((k : Int) - 1) = ((k - 1 : Nat) : Int) by omega) (by omega)) ?_
    refine sq_yes rfl rfl (less_b g3) rfl (ev_load_i (lr _) ty3 rfl) ?_
    refine sq_yes rfl rfl (less_b g3) rfl (ev_leq (lr _) (lr _)) ?_
    refine sq_yes rfl rfl (less_b g2) rfl (ev_pickT (v := .raw _) (less_b g3) (lr _)) ?_
    refine sq_ev rfl (ev_pickF (v := .raw _) (less_b g2) (lr _)) ?_
    refine sq_nil ?_
    refine aw_cond (lr _) (fun c4 => ?_) (fun c4 => ?_)
    ·
     have c4' := c4
     try simp only [qq] at c4'
     refine aw_seq (aw_region ?_)
     refine asr (lr _) rfl ?_
     refine sq_nil (aw_ret ?_)
     exact retQ_pure (v := .raw _) rfl rfl (Less.eq (by rw [Ris, okAll_bad (i := k) (by omega) (by first | (simp [risBad, *]; done) | (simp_all [risBad]; done))]))
    ·
     have c4' := c4
     try simp only [qq] at c4'
     refine aw_skip (aw_region ?_)
     refine sq_ev rfl (ev_add (lr _) (lr _) (wr (by omega) (by omega))) ?_
     refine mvr (lr _) rfl ?_
     refine sq_nil ?_
     have hgood : risBad p l k (by omega) = false := by first | (simp [risBad, *]; done) | (simp_all [risBad]; done)
     exact ⟨⟨k + 1, by omega, fun i h hi => (by by_cases e : i = k; (subst e; exact hgood); exact hok i h (by omega))⟩, by simp only; omega, Sub.fin 1 ⟨lr _, lr _, lr _, lr _, lr _, trivial⟩ rfl (by simp [slotsIn, objsIn, sget, keepS, AObj.inB, AV.inB, AV.inL, AV.inE, inE_map]) (by simp [slotsIn, objsIn, sget, keepS, AObj.inB, AV.inB, AV.inL, AV.inE, inE_map]) (by simp [he0])⟩
   ·
    have g3' := g3
    try simp only [qq] at g3'
    have g3n : ¬ (0 < k) := by omega
    refine sq_no rfl rfl (less_b g3) rfl rfl ?_
    refine sq_no rfl rfl (less_b g3) rfl rfl ?_
    refine sq_no rfl rfl (less_b g3) rfl rfl ?_
    refine sq_no rfl rfl (less_b g3) rfl rfl ?_
    refine sq_no rfl rfl (less_b g3) rfl rfl ?_
    refine sq_no rfl rfl (less_b g3) rfl rfl ?_
    refine sq_no rfl rfl (less_b g3) rfl rfl ?_
    refine sq_yes rfl rfl (less_b g2) rfl (ev_pickF (v := .raw _) (less_b g3) (lr _)) ?_
    refine sq_ev rfl (ev_pickF (v := .raw _) (less_b g2) (lr _)) ?_
    refine sq_nil ?_
    refine aw_false (lr _) ?_
    refine aw_skip (aw_region ?_)
    refine sq_ev rfl (ev_add (lr _) (lr _) (wr (by omega) (by omega))) ?_
    refine mvr (lr _) rfl ?_
    refine sq_nil ?_
    have hgood : risBad p l k (by omega) = false := by first | (simp [risBad, *]; done) | (simp_all [risBad]; done)
    exact ⟨⟨k + 1, by omega, fun i h hi => (by by_cases e : i = k; (subst e; exact hgood); exact hok i h (by omega))⟩, by simp only; omega, Sub.fin 1 ⟨lr _, lr _, lr _, lr _, lr _, trivial⟩ rfl (by simp [slotsIn, objsIn, sget, keepS, AObj.inB, AV.inB, AV.inL, AV.inE, inE_map]) (by simp [slotsIn, objsIn, sget, keepS, AObj.inB, AV.inB, AV.inL, AV.inE, inE_map]) (by simp [he0])⟩
 ·
  have c1' := c1
  try simp only [qq] at c1'
  refine aw_exit (aw_seq (aw_region ?_))
  refine asr (lr _) rfl ?_
  refine sq_nil (aw_ret ?_)
  exact retQ_pure (v := .raw _) rfl rfl (Less.eq (by rw [Ris, okAll_end hk c1' hok]))


end Go.Proofs.YtjghdbdiejaacaaGreatDoor

namespace Go.Proofs.YtjghdbdiejaacaaGreatDoor
open Go Go.Ab Ni
theorem en141 : Ent Tryz.prog 141 := Ent.of Tryz.func141 (by kernel_rfl) rfl
theorem en142 : Ent Tryz.prog 142 := Ent.of Tryz.func142 (by kernel_rfl) rfl

def prevP (l : List Sc) (k : Nat) : Int := if k = 0 then 0 else (l.getD (k - 1) default).part
theorem prevP_succ {l : List Sc} {k : Nat} (h : k < l.length) : prevP l (k + 1) = l[k].part := by simp [prevP, List.getD_eq_getElem?_getD, h]
theorem prevP_nn {l : List Sc} {k : Nat} (hk : k ≤ l.length) (hok : ∀ i, (h : i < l.length) → i < k → scBad l i h = false) : 0 ≤ prevP l k := by
  unfold prevP
  split
  · omega
  · have := hok (k - 1) (by omega) (by omega)
    simp [scBad, inn] at this
    rw [List.getD_eq_getElem?_getD, List.getElem?_eq_getElem (by omega)]
    exact this.1.1.1.1.1.1
theorem part_ok {l : List Sc} {k : Nat} (h : k < l.length) (hok : ∀ i, (h : i < l.length) → i < k → scBad l i h = false) :
    inn l[k].part (prevP l k) 2 = (inn l[k].part 0 2 && !(decide (0 < k) && decide (l[k].part < (l[k - 1]'(by omega)).part))) := by
  have hp := prevP_nn (by omega) hok
  rw [Bool.eq_iff_iff]
  unfold prevP at hp ⊢
  by_cases h0 : k = 0
  · subst h0; simp [inn]
  · simp only [if_neg h0] at hp ⊢
    rw [List.getD_eq_getElem?_getD, List.getElem?_eq_getElem (by omega)] at hp ⊢
    simp only [Option.getD_some] at hp ⊢
    simp [inn]
    omega
theorem part_ok' {l : List Sc} {k : Nat} (h : k < l.length) (hok : ∀ i, (h : i < l.length) → i < k → scBad l i h = false) :
    (!inn l[k].part 0 2 || (decide (0 < k) && decide (l[k].part < (l[k - 1]'(by omega)).part))) = !inn l[k].part (prevP l k) 2 := by
  rw [part_ok h hok]
  cases inn l[k].part 0 2 <;> simp
theorem wins_ok {p : Pl} {k : Nat} (hk : ¬ (k : Int) < 3) (h3 : k ≤ 3) (h : ∀ j, j < k → wnd (wl p j) (wh p j) = true) : wnd p.s0l p.s0h = true ∧ wnd p.s1l p.s1h = true ∧ wnd p.dl p.dh = true :=
  ⟨h 0 (by omega), h 1 (by omega), h 2 (by omega)⟩
theorem wins_bad {p : Pl} {k : Nat} (hk : k < 3) (h : wnd (wl p k) (wh p k) = false) : (wnd p.s0l p.s0h && wnd p.s1l p.s1h && wnd p.dl p.dh) = false := by
  rcases k with _ | _ | _ | k
  · simp [wl, wh] at h; simp [h]
  · simp [wl, wh] at h; simp [h]
  · simp [wl, wh] at h; simp [h]
  · omega
set_option maxHeartbeats 4000000 in
/-- kelir/night.isPlan -/
theorem isplan_pure (p : Pl) (hl : p.scenes.length ≤ 1000000) : APure Tryz.prog 85 [plan p] (B (PlOK p)) := by
  refine apure_of (rs := [.tmp 2]) Tryz.func85 rfl rfl (Nat.le_of_ble_eq_true rfl) (by simp [AV.pureL, AV.pureB, AV.pureE, pureE_map]) (rfl) fun e0 he0 => ?_
  refine aw_seq (aw_region ?_)
  refine sq_box rfl (lr _) rfl ?_
  refine asr (lr _) rfl ?_
  refine sq_nil (aw_seq (aw_seq (aw_region ?_)))
  refine sq_ev rfl (ev_fieldAddr fo27_0 (lr _)) ?_
  refine sq_ev rfl (ev_load (lr _) rfl ty3 rfl) ?_
  refine sq_ev rfl (ev_call en122 (lr _) (nin_pure _ _ _) ⟨lr _, lr _, lr _, trivial⟩) ?_
  refine sq_ev rfl (ev_not (lr _)) ?_
  refine mvr (lr _) rfl ?_
  refine sq_split 12 (lr _) (fun g1 => ?_) (fun g1 => ?_)
  · skip
    have g1' := g1
    try simp only [qq] at g1'
    refine sq_no rfl rfl (less_b g1) rfl rfl ?_
    refine sq_no rfl rfl (less_b g1) rfl rfl ?_
    refine sq_no rfl rfl (less_b g1) rfl rfl ?_
    refine sq_no rfl rfl (less_b g1) rfl rfl ?_
    refine sq_no rfl rfl (less_b g1) rfl rfl ?_
    refine sq_ev rfl (ev_pickT (v := .raw _) (less_b g1) (lr _)) ?_
    refine sq_nil ?_
    refine aw_true (lr _) ?_
    refine aw_seq (aw_region ?_)
    refine asr (lr _) rfl ?_
    refine sq_nil (aw_ret ?_)
    exact retQ_pure (v := .raw _) rfl rfl (Less.eq (by simp_all [PlOK]))
  · skip
    have g1' := g1
    try simp only [qq] at g1'
    refine sq_yes rfl rfl (less_b g1) rfl (ev_fieldAddr fo27_3 (lr _)) ?_
    refine sq_yes rfl rfl (less_b g1) rfl (ev_load (lr _) rfl ty25 rfl) ?_
    refine sq_yes rfl rfl (less_b g1) rfl (ev_len_map sl25 (lr _)) ?_
    refine sq_yes rfl rfl (less_b g1) rfl (ev_call en122 (lr _) (nin_pure _ _ _) ⟨lr _, lr _, lr _, trivial⟩) ?_
    refine sq_yes rfl rfl (less_b g1) rfl (ev_not (lr _)) ?_
    refine sq_ev rfl (ev_pickF (v := .raw _) (less_b g1) (lr _)) ?_
    refine sq_nil ?_
    refine aw_cond (lr _) (fun c2 => ?_) (fun c2 => ?_)
    · skip
      have c2' := c2
      try simp only [qq] at c2'
      refine aw_seq (aw_region ?_)
      refine asr (lr _) rfl ?_
      refine sq_nil (aw_ret ?_)
      exact retQ_pure (v := .raw _) rfl rfl (Less.eq (by simp_all [PlOK]))
    · skip
      have c2' := c2
      try simp only [qq] at c2'
      refine aw_skip (aw_seq (aw_seq (aw_region ?_)))
      refine mvr (lr _) rfl ?_
      refine sq_nil (aw_block ?_)
      refine aw_loopk (ι := { k : Nat // k ≤ 3 ∧ ∀ j, j < k → wnd (wl p j) (wh p j) = true }) [1] (fun i => [(19, I i.1)]) (fun H i => H) (fun i => 3 - i.1) (⟨0, by omega, by omega⟩) ⟨lr _, lr _, trivial⟩ rfl ?_
      rintro ⟨k, k3, hw⟩
      dsimp only [keepS, St.put, sget, slotsOf, List.map_cons, List.map_nil, List.cons_append, List.nil_append, List.length_cons, List.length_nil, Nat.reduceBEq, Nat.reduceAdd, cond_true, cond_false]
      refine aw_seq (aw_region ?_)
      refine sq_ev rfl (ev_lss (lr _) (lr _)) ?_
      refine sq_nil (aw_seq ?_)
      refine aw_cond (lr _) (fun c3 => ?_) (fun c3 => ?_)
      · skip
        have c3' := c3
        try simp only [qq] at c3'
        refine aw_skip (aw_seq (aw_block (aw_seq (aw_region ?_))))
        refine mvr (lr _) rfl ?_
        refine asr (lr _) rfl ?_
        refine sq_nil (aw_seq (aw_region ?_))
        refine sq_ev rfl (ev_load_agg (lr _) rfl ty27 rfl) ?_
        refine mvr (lr _) rfl ?_
        refine sq_ev rfl (ev_call en142 (lr _) (nwindow_pure _ _ (by omega)) ⟨lr _, lr _, trivial⟩) ?_
        refine sq_ev rfl (ev_call en141 (lr _) (niswindow_pure _ _) ⟨lr _, trivial⟩) ?_
        refine sq_ev rfl (ev_not (lr _)) ?_
        refine sq_nil ?_
        refine aw_cond (lr _) (fun c4 => ?_) (fun c4 => ?_)
        · skip
          have c4' := c4
          try simp only [qq] at c4'
          refine aw_seq (aw_region ?_)
          refine asr (lr _) rfl ?_
          refine sq_nil (aw_ret ?_)
          exact retQ_pure (v := .raw _) rfl rfl (Less.eq (by have h := wins_bad (p := p) (k := k) (by omega) c4'; simp [PlOK, g1', c2']; intro h1 h2 h3; rw [h1, h2, h3] at h; cases h))
        · skip
          have c4' := c4
          try simp only [qq] at c4'
          refine aw_skip (aw_region ?_)
          refine sq_ev rfl (ev_add (lr _) (lr _) (wr (by omega) (by omega))) ?_
          refine mvr (lr _) rfl ?_
          refine sq_nil ?_
          exact ⟨⟨k + 1, by omega, fun j h => (by by_cases e : j = k; (subst e; assumption); exact hw j (by omega))⟩, by simp only; omega, Sub.fin 1 ⟨lr _, lr _, trivial⟩ rfl (by simp [slotsIn, objsIn, sget, keepS, AObj.inB, AV.inB, AV.inL, AV.inE, inE_map]) (by simp [slotsIn, objsIn, sget, keepS, AObj.inB, AV.inB, AV.inL, AV.inE, inE_map]) (by simp [he0])⟩
      · skip
        have c3' := c3
        try simp only [qq] at c3'
        refine aw_exit (aw_seq (aw_region ?_))
        refine asr (lr _) rfl ?_
        refine asr (lr _) rfl ?_
        refine sq_nil (aw_seq (aw_seq (aw_region ?_)))
        refine sq_ev rfl (ev_fieldAddr fo27_3 (lr _)) ?_
        refine sq_ev rfl (ev_load (lr _) rfl ty25 rfl) ?_
        refine sq_ev rfl (ev_len_map sl25 (lr _)) ?_
        refine mvr (lr _) rfl ?_
        refine sq_nil (aw_block ?_)
        obtain ⟨w1, w2, w3⟩ := wins_ok c3' k3 hw
        refine aw_loopk (ι := { k : Nat // k ≤ p.scenes.length ∧ ∀ i, (h : i < p.scenes.length) → i < k → scBad p.scenes i h = false }) [1, 29, 30] (fun i => [(31, I i.1), (4, I (prevP p.scenes i.1)), (5, I (loosies (p.scenes.take i.1)))]) (fun H i => H) (fun i => p.scenes.length - i.1) (⟨0, Nat.zero_le _, by omega⟩) ⟨lr _, lr _, lr _, lr _, lr _, lr _, trivial⟩ rfl ?_
        rintro ⟨k, hk, hok⟩
        dsimp only [keepS, St.put, sget, slotsOf, List.map_cons, List.map_nil, List.cons_append, List.nil_append, List.length_cons, List.length_nil, Nat.reduceBEq, Nat.reduceAdd, cond_true, cond_false]
        have hlo := loosies_le (p.scenes.take k)
        have hlt := List.length_take_le k p.scenes
        refine aw_seq (aw_region ?_)
        refine sq_ev rfl (ev_lss (lr _) (lr _)) ?_
        refine sq_nil (aw_seq ?_)
        refine aw_cond (lr _) (fun c5 => ?_) (fun c5 => ?_)
        · skip
          have c5' := c5
          try simp only [qq] at c5'
          refine aw_skip (aw_seq (aw_block (aw_seq (aw_region ?_))))
          refine mvr (lr _) rfl ?_
          refine sq_ev rfl (ev_index_map sl25 (lr _) (lr _) rfl (by omega)) ?_
          refine sq_ev rfl (ev_load_agg_i (lr _) ty84 (Nat.le_of_ble_eq_true rfl)) ?_
          refine sq_alloc rfl z84 ?_
          refine asr (lr _) rfl ?_
          refine sq_store rfl (lr _) (lr _) rfl rfl ty84 rfl rfl ?_
          refine sq_nil (aw_seq (aw_seq (aw_region ?_)))
          refine sq_ev rfl (ev_fieldAddr fo84_0 (lr _)) ?_
          refine sq_ev rfl (ev_load (lr _) rfl ty3 rfl) ?_
          refine mvr (lr _) rfl ?_
          refine sq_ev rfl (ev_call en122 (lr _) (nin_pure _ _ _) ⟨lr _, lr _, lr _, trivial⟩) ?_
          refine sq_ev rfl (ev_not (lr _)) ?_
          refine mvr (lr _) rfl ?_
          refine sq_split 41 (lr _) (fun g6 => ?_) (fun g6 => ?_)
          · skip
            have g6' := g6
            try simp only [qq] at g6'
            refine sq_no rfl rfl (less_b g6) rfl rfl ?_
            refine sq_no rfl rfl (less_b g6) rfl rfl ?_
            refine sq_no rfl rfl (less_b g6) rfl rfl ?_
            refine sq_no rfl rfl (less_b g6) rfl rfl ?_
            refine sq_ev rfl (ev_pickT (v := .raw _) (less_b g6) (lr _)) ?_
            refine mvr (lr _) rfl ?_
            refine sq_no rfl rfl (lr _) rfl rfl ?_
            refine sq_no rfl rfl (lr _) rfl rfl ?_
            refine sq_no rfl rfl (lr _) rfl rfl ?_
            refine sq_no rfl rfl (lr _) rfl rfl ?_
            refine sq_no rfl rfl (lr _) rfl rfl ?_
            refine sq_no rfl rfl (lr _) rfl rfl ?_
            refine sq_ev rfl (ev_pickT (v := .raw _) (lr _) (lr _)) ?_
            refine mvr (lr _) rfl ?_
            refine sq_no rfl rfl (lr _) rfl rfl ?_
            refine sq_no rfl rfl (lr _) rfl rfl ?_
            refine sq_no rfl rfl (lr _) rfl rfl ?_
            refine sq_no rfl rfl (lr _) rfl rfl ?_
            refine sq_no rfl rfl (lr _) rfl rfl ?_
            refine sq_no rfl rfl (lr _) rfl rfl ?_
            refine sq_no rfl rfl (lr _) rfl rfl ?_
            refine sq_no rfl rfl (lr _) rfl rfl ?_
            refine sq_ev rfl (ev_pickT (v := .raw _) (lr _) (lr _)) ?_
            refine mvr (lr _) rfl ?_
            refine sq_no rfl rfl (lr _) rfl rfl ?_
            refine sq_no rfl rfl (lr _) rfl rfl ?_
            refine sq_no rfl rfl (lr _) rfl rfl ?_
            refine sq_no rfl rfl (lr _) rfl rfl ?_
            refine sq_ev rfl (ev_pickT (v := .raw _) (lr _) (lr _)) ?_
            refine sq_nil ?_
            refine aw_true (lr _) ?_
            refine aw_seq (aw_region ?_)
            refine asr (lr _) rfl ?_
            refine sq_nil (aw_ret ?_)
            exact retQ_pure (v := .raw _) rfl rfl (Less.eq (by have h : scBad p.scenes k (by omega) = true := (by simp only [scBad, part_ok' (l := p.scenes) (k := k) (by omega) hok]; simp [*]); simp only [PlOK, scOK_bad (by omega) h, Bool.and_false]))
          · skip
            have g6' := g6
            try simp only [qq] at g6'
            refine sq_yes rfl rfl (less_b g6) rfl (ev_fieldAddr fo84_1 (lr _)) ?_
            refine sq_yes rfl rfl (less_b g6) rfl (ev_load (lr _) rfl ty3 rfl) ?_
            refine sq_yes rfl rfl (less_b g6) rfl (ev_call en122 (lr _) (nin_pure _ _ _) ⟨lr _, lr _, lr _, trivial⟩) ?_
            refine sq_yes rfl rfl (less_b g6) rfl (ev_not (lr _)) ?_
            refine sq_ev rfl (ev_pickF (v := .raw _) (less_b g6) (lr _)) ?_
            refine mvr (lr _) rfl ?_
            refine sq_split 47 (lr _) (fun g7 => ?_) (fun g7 => ?_)
            · skip
              have g7' := g7
              try simp only [qq] at g7'
              refine sq_no rfl rfl (less_b g7) rfl rfl ?_
              refine sq_no rfl rfl (less_b g7) rfl rfl ?_
              refine sq_no rfl rfl (less_b g7) rfl rfl ?_
              refine sq_no rfl rfl (less_b g7) rfl rfl ?_
              refine sq_no rfl rfl (less_b g7) rfl rfl ?_
              refine sq_no rfl rfl (less_b g7) rfl rfl ?_
              refine sq_ev rfl (ev_pickT (v := .raw _) (less_b g7) (lr _)) ?_
              refine mvr (lr _) rfl ?_
              refine sq_no rfl rfl (lr _) rfl rfl ?_
              refine sq_no rfl rfl (lr _) rfl rfl ?_
              refine sq_no rfl rfl (lr _) rfl rfl ?_
              refine sq_no rfl rfl (lr _) rfl rfl ?_
              refine sq_no rfl rfl (lr _) rfl rfl ?_
              refine sq_no rfl rfl (lr _) rfl rfl ?_
              refine sq_no rfl rfl (lr _) rfl rfl ?_
              refine sq_no rfl rfl (lr _) rfl rfl ?_
              refine sq_ev rfl (ev_pickT (v := .raw _) (lr _) (lr _)) ?_
              refine mvr (lr _) rfl ?_
              refine sq_no rfl rfl (lr _) rfl rfl ?_
              refine sq_no rfl rfl (lr _) rfl rfl ?_
              refine sq_no rfl rfl (lr _) rfl rfl ?_
              refine sq_no rfl rfl (lr _) rfl rfl ?_
              refine sq_ev rfl (ev_pickT (v := .raw _) (lr _) (lr _)) ?_
              refine sq_nil ?_
              refine aw_true (lr _) ?_
              refine aw_seq (aw_region ?_)
              refine asr (lr _) rfl ?_
              refine sq_nil (aw_ret ?_)
              exact retQ_pure (v := .raw _) rfl rfl (Less.eq (by have h : scBad p.scenes k (by omega) = true := (by simp only [scBad, part_ok' (l := p.scenes) (k := k) (by omega) hok]; simp [*]); simp only [PlOK, scOK_bad (by omega) h, Bool.and_false]))
            · skip
              have g7' := g7
              try simp only [qq] at g7'
              refine sq_yes rfl rfl (less_b g7) rfl (ev_fieldAddr fo84_2 (lr _)) ?_
              refine sq_yes rfl rfl (less_b g7) rfl (ev_load (lr _) rfl ty3 rfl) ?_
              refine sq_yes rfl rfl (less_b g7) rfl (ev_fieldAddr fo84_1 (lr _)) ?_
              refine sq_yes rfl rfl (less_b g7) rfl (ev_load (lr _) rfl ty3 rfl) ?_
              refine sq_yes rfl rfl (less_b g7) rfl (ev_call en122 (lr _) (nin_pure _ _ _) ⟨lr _, lr _, lr _, trivial⟩) ?_
              refine sq_yes rfl rfl (less_b g7) rfl (ev_not (lr _)) ?_
              refine sq_ev rfl (ev_pickF (v := .raw _) (less_b g7) (lr _)) ?_
              refine mvr (lr _) rfl ?_
              refine sq_split 55 (lr _) (fun g8 => ?_) (fun g8 => ?_)
              · skip
                have g8' := g8
                try simp only [qq] at g8'
                refine sq_no rfl rfl (less_b g8) rfl rfl ?_
                refine sq_no rfl rfl (less_b g8) rfl rfl ?_
                refine sq_no rfl rfl (less_b g8) rfl rfl ?_
                refine sq_no rfl rfl (less_b g8) rfl rfl ?_
                refine sq_no rfl rfl (less_b g8) rfl rfl ?_
                refine sq_no rfl rfl (less_b g8) rfl rfl ?_
                refine sq_no rfl rfl (less_b g8) rfl rfl ?_
                refine sq_no rfl rfl (less_b g8) rfl rfl ?_
                refine sq_ev rfl (ev_pickT (v := .raw _) (less_b g8) (lr _)) ?_
                refine mvr (lr _) rfl ?_
                refine sq_no rfl rfl (lr _) rfl rfl ?_
                refine sq_no rfl rfl (lr _) rfl rfl ?_
                refine sq_no rfl rfl (lr _) rfl rfl ?_
                refine sq_no rfl rfl (lr _) rfl rfl ?_
                refine sq_ev rfl (ev_pickT (v := .raw _) (lr _) (lr _)) ?_
                refine sq_nil ?_
                refine aw_true (lr _) ?_
                refine aw_seq (aw_region ?_)
                refine asr (lr _) rfl ?_
                refine sq_nil (aw_ret ?_)
                exact retQ_pure (v := .raw _) rfl rfl (Less.eq (by have h : scBad p.scenes k (by omega) = true := (by simp only [scBad, part_ok' (l := p.scenes) (k := k) (by omega) hok]; simp [*]); simp only [PlOK, scOK_bad (by omega) h, Bool.and_false]))
              · skip
                have g8' := g8
                try simp only [qq] at g8'
                refine sq_yes rfl rfl (less_b g8) rfl (ev_fieldAddr fo84_4 (lr _)) ?_
                refine sq_yes rfl rfl (less_b g8) rfl (ev_load (lr _) rfl ty3 rfl) ?_
                refine sq_yes rfl rfl (less_b g8) rfl (ev_fieldAddr fo27_3 (lr _)) ?_
                refine sq_yes rfl rfl (less_b g8) rfl (ev_load (lr _) rfl ty25 rfl) ?_
                refine sq_yes rfl rfl (less_b g8) rfl (ev_len_map sl25 (lr _)) ?_
                refine sq_yes rfl rfl (less_b g8) rfl (ev_sub (lr _) (lr _) (wr (by omega) (by omega))) ?_
                refine sq_yes rfl rfl (less_b g8) rfl (ev_call en122 (lr _) (nin_pure _ _ _) ⟨lr _, lr _, lr _, trivial⟩) ?_
                refine sq_yes rfl rfl (less_b g8) rfl (ev_not (lr _)) ?_
                refine sq_ev rfl (ev_pickF (v := .raw _) (less_b g8) (lr _)) ?_
                refine mvr (lr _) rfl ?_
                refine sq_split 65 (lr _) (fun g9 => ?_) (fun g9 => ?_)
                · skip
                  have g9' := g9
                  try simp only [qq] at g9'
                  refine sq_no rfl rfl (less_b g9) rfl rfl ?_
                  refine sq_no rfl rfl (less_b g9) rfl rfl ?_
                  refine sq_no rfl rfl (less_b g9) rfl rfl ?_
                  refine sq_no rfl rfl (less_b g9) rfl rfl ?_
                  refine sq_ev rfl (ev_pickT (v := .raw _) (less_b g9) (lr _)) ?_
                  refine sq_nil ?_
                  refine aw_true (lr _) ?_
                  refine aw_seq (aw_region ?_)
                  refine asr (lr _) rfl ?_
                  refine sq_nil (aw_ret ?_)
                  exact retQ_pure (v := .raw _) rfl rfl (Less.eq (by have h : scBad p.scenes k (by omega) = true := (by simp only [scBad, part_ok' (l := p.scenes) (k := k) (by omega) hok]; simp [*]); simp only [PlOK, scOK_bad (by omega) h, Bool.and_false]))
                · skip
                  have g9' := g9
                  try simp only [qq] at g9'
                  refine sq_yes rfl rfl (less_b g9) rfl (ev_fieldAddr fo84_4 (lr _)) ?_
                  refine sq_yes rfl rfl (less_b g9) rfl (ev_load (lr _) rfl ty3 rfl) ?_
                  refine sq_yes rfl rfl (less_b g9) rfl (ev_mv (v := .raw _) (lr _)) ?_
                  refine sq_yes rfl rfl (less_b g9) rfl (ev_eql (lr _) (lr _)) ?_
                  refine sq_ev rfl (ev_pickF (v := .raw _) (less_b g9) (lr _)) ?_
                  refine sq_nil ?_
                  refine aw_cond (lr _) (fun c10 => ?_) (fun c10 => ?_)
                  · skip
                    have c10' := c10
                    try simp only [qq] at c10'
                    refine aw_seq (aw_region ?_)
                    refine asr (lr _) rfl ?_
                    refine sq_nil (aw_ret ?_)
                    exact retQ_pure (v := .raw _) rfl rfl (Less.eq (by have h : scBad p.scenes k (by omega) = true := (by simp only [scBad, part_ok' (l := p.scenes) (k := k) (by omega) hok]; simp [*]); simp only [PlOK, scOK_bad (by omega) h, Bool.and_false]))
                  · skip
                    have c10' := c10
                    try simp only [qq] at c10'
                    refine aw_skip (aw_seq (aw_region ?_))
                    refine sq_ev rfl (ev_fieldAddr fo84_0 (lr _)) ?_
                    refine sq_ev rfl (ev_load (lr _) rfl ty3 rfl) ?_
                    refine asr (lr _) rfl ?_
                    refine sq_nil (aw_seq (aw_region ?_))
                    refine sq_ev rfl (ev_fieldAddr fo84_3 (lr _)) ?_
                    refine sq_ev rfl (ev_load (lr _) rfl ty4 rfl) ?_
                    refine sq_nil ?_
                    refine aw_cond (lr _) (fun c11 => ?_) (fun c11 => ?_)
                    · skip
                      have c11' := c11
                      try simp only [qq] at c11'
                      refine aw_region ?_
                      refine mvr (lr _) rfl ?_
                      refine sq_ev rfl (ev_add (lr _) (lr _) (wr (by omega) (by omega))) ?_
                      refine asr (lr _) rfl ?_
                      refine sq_nil (aw_region ?_)
                      refine sq_ev rfl (ev_add (lr _) (lr _) (wr (by omega) (by omega))) ?_
                      refine mvr (lr _) rfl ?_
                      refine sq_nil ?_
                      have hstep := loosies_take (l := p.scenes) (k := k) (by omega)
                      have hgood : scBad p.scenes k (by omega) = false := by (simp only [scBad, part_ok' (l := p.scenes) (k := k) (by omega) hok]; simp [*])
                      exact ⟨⟨k + 1, by omega, fun i h hi => (by by_cases e : i = k; (subst e; exact hgood); exact hok i h (by omega))⟩, by simp only; omega, Sub.fin 1 ⟨lr _, less_int (prevP_succ (by omega)).symm, less_int (by rw [hstep]; simp [*]), lr _, lr _, lr _, trivial⟩ rfl (by simp [slotsIn, objsIn, sget, keepS, AObj.inB, AV.inB, AV.inL, AV.inE, inE_map]) (by simp [slotsIn, objsIn, sget, keepS, AObj.inB, AV.inB, AV.inL, AV.inE, inE_map]) (by simp [he0])⟩
                    · skip
                      have c11' := c11
                      try simp only [qq] at c11'
                      refine aw_skip (aw_region ?_)
                      refine sq_ev rfl (ev_add (lr _) (lr _) (wr (by omega) (by omega))) ?_
                      refine mvr (lr _) rfl ?_
                      refine sq_nil ?_
                      have hstep := loosies_take (l := p.scenes) (k := k) (by omega)
                      have hgood : scBad p.scenes k (by omega) = false := by (simp only [scBad, part_ok' (l := p.scenes) (k := k) (by omega) hok]; simp [*])
                      exact ⟨⟨k + 1, by omega, fun i h hi => (by by_cases e : i = k; (subst e; exact hgood); exact hok i h (by omega))⟩, by simp only; omega, Sub.fin 1 ⟨lr _, less_int (prevP_succ (by omega)).symm, less_int (by rw [hstep]; simp [*]), lr _, lr _, lr _, trivial⟩ rfl (by simp [slotsIn, objsIn, sget, keepS, AObj.inB, AV.inB, AV.inL, AV.inE, inE_map]) (by simp [slotsIn, objsIn, sget, keepS, AObj.inB, AV.inB, AV.inL, AV.inE, inE_map]) (by simp [he0])⟩
        · skip
          have c5' := c5
          try simp only [qq] at c5'
          refine aw_exit (aw_seq (aw_region ?_))
          refine mvr (lr _) rfl ?_
          refine sq_ev rfl (ev_leq (lr _) (lr _)) ?_
          refine asr (lr _) rfl ?_
          refine sq_nil (aw_ret ?_)
          exact retQ_pure (v := .raw _) rfl rfl (Less.eq (by rw [scOK_end hk c5' hok]; simp [PlOK, w1, w2, w3, g1', c2']))


end Go.Proofs.YtjghdbdiejaacaaGreatDoor

namespace Go.Proofs.YtjghdbdiejaacaaGreatDoor
open Go Go.Ab Ni
theorem ar187 : arrElem Tryz.prog 187 = some (2, 186, 1) := by kernel_rfl
theorem bi187 : bldInfo Tryz.prog 187 = some ([.raw .nilFunc, .raw .nilFunc], false, [], 1) := by kernel_rfl
theorem en160 : Ent Tryz.prog 160 := Ent.of Tryz.func160 (by kernel_rfl) rfl
theorem en161 : Ent Tryz.prog 161 := Ent.of Tryz.func161 (by kernel_rfl) rfl
theorem en167 : Ent Tryz.prog 167 := Ent.of Tryz.func167 (by kernel_rfl) rfl
theorem fo110_0 : fOff Tryz.prog 110 0 = some (0, 27) := by kernel_rfl
theorem fo110_1 : fOff Tryz.prog 110 1 = some (8, 34) := by kernel_rfl
theorem ty110 : tySz Tryz.prog 110 = some (true, 9) := by kernel_rfl
theorem ty186 : tySz Tryz.prog 186 = some (false, 1) := by kernel_rfl
theorem ty187 : tySz Tryz.prog 187 = some (true, 2) := by kernel_rfl
theorem z187 : zeroOf Tryz.prog 187 = some [.raw .nilFunc, .raw .nilFunc] := by kernel_rfl

abbrev playedC (p : Pl) (l : List Nat) : List AV := [I p.beg, I p.s0l, I p.s0h, I p.s1l, I p.s1h, I p.dl, I p.dh, .sl 5 (p.scenes.map sc), nats l]
abbrev played (p : Pl) (l : List Nat) : AV := .agg (playedC p l)
theorem inE_ints (n : Nat) (l : List Int) : AV.inE n (l.map fun x => [I x]) = true := inE_map fun x _ => by simp [AV.inL, AV.inB]
theorem inE_nats1 (n : Nat) (l : List Nat) : AV.inE n (l.map fun (x : Nat) => [I x]) = true := inE_map fun x _ => by simp [AV.inL, AV.inB]
theorem inE_sc (n : Nat) (l : List Sc) : AV.inE n (l.map sc) = true := inE_map fun x _ => by simp [AV.inL, AV.inB]
set_option maxHeartbeats 400000 in
/-- kelir/night.sum -/
theorem nsum_pure (l : List Int) (hb : ∀ x ∈ l, 0 ≤ x ∧ x ≤ 10000) (hl : l.length ≤ 1000000) : APure Tryz.prog 167 [ints l] (I l.sum) := by
  refine apure_of (rs := [.tmp 2]) Tryz.func167 rfl rfl (Nat.le_of_ble_eq_true rfl) (by simp [AV.pureL, AV.pureB, AV.pureE, pureE_map]) (rfl) fun e0 he0 => ?_
  refine aw_seq (aw_region ?_)
  refine asr (lr _) rfl ?_
  refine sq_nil (aw_seq (aw_region ?_))
  refine asr (lr _) rfl ?_
  refine sq_nil (aw_seq (aw_seq (aw_region ?_)))
  refine sq_ev rfl (ev_mv (v := .sl _ _) (lr _)) ?_
  refine sq_ev rfl (ev_len_map sl34 (lr _)) ?_
  refine mvr (lr _) rfl ?_
  refine sq_nil (aw_block ?_)
  refine aw_loopk (ι := { k : Nat // k ≤ l.length }) [6, 7] (fun i => [(8, I i.1), (3, I (l.take i.1).sum)]) (fun H i => H) (fun i => l.length - i.1) (⟨0, Nat.zero_le _⟩) ⟨lr _, lr _, lr _, lr _, trivial⟩ rfl ?_
  rintro ⟨k, hk⟩
  dsimp only [keepS, St.put, sget, slotsOf, List.map_cons, List.map_nil, List.cons_append, List.nil_append, List.length_cons, List.length_nil, Nat.reduceBEq, Nat.reduceAdd, cond_true, cond_false]
  have h1 := isum_bd_take hb hl k
  refine aw_seq (aw_region ?_)
  refine sq_ev rfl (ev_lss (lr _) (lr _)) ?_
  refine sq_nil (aw_seq ?_)
  refine aw_cond (lr _) (fun c1 => ?_) (fun c1 => ?_)
  · skip
    have c1' := c1
    try simp only [qq] at c1'
    have hk' : k < l.length := by omega
    have hv := hb _ (List.getElem_mem hk')
    refine aw_skip (aw_seq (aw_block (aw_seq (aw_region ?_))))
    refine sq_ev rfl (ev_index_map sl34 (lr _) (lr _) rfl (by omega)) ?_
    refine sq_ev rfl (ev_load_i (lr _) ty3 rfl) ?_
    refine asr (lr _) rfl ?_
    refine sq_nil (aw_region ?_)
    refine mvr (lr _) rfl ?_
    refine mvr (lr _) rfl ?_
    refine sq_ev rfl (ev_add (lr _) (lr _) (wr (by omega) (by omega))) ?_
    refine asr (lr _) rfl ?_
    refine sq_nil (aw_region ?_)
    refine sq_ev rfl (ev_add (lr _) (lr _) (wr (by omega) (by omega))) ?_
    refine mvr (lr _) rfl ?_
    refine sq_nil ?_
    exact ⟨⟨k + 1, by omega⟩, by simp only; omega, Sub.slots ⟨lr _, less_int (isum_take hk').symm, lr _, lr _, trivial⟩⟩
  · skip
    have c1' := c1
    try simp only [qq] at c1'
    obtain rfl : k = l.length := by omega
    refine aw_exit (aw_seq (aw_region ?_))
    refine mvr (lr _) rfl ?_
    refine asr (lr _) rfl ?_
    refine sq_nil (aw_ret ?_)
    exact retQ_pure (v := .raw _) rfl rfl (Less.eq (by simp))

set_option maxHeartbeats 1000000 in
/-- (kelir/night.played).least -/
theorem nleast_pure (p : Pl) (l xs : List Nat) (gp : GP p) (cv : CV p xs) : APure Tryz.prog 160 [played p l, nats xs] (I (lsum p xs)) := by
 refine apure_of (rs := [.tmp 4]) Tryz.func160 rfl rfl (Nat.le_of_ble_eq_true rfl) (by simp [AV.pureL, AV.pureB, AV.pureE, pureE_map]) (rfl) fun e0 he0 => ?_
 refine aw_seq (aw_region ?_)
 refine sq_box rfl (lr _) rfl ?_
 refine asr (lr _) rfl ?_
 refine sq_nil (aw_seq (aw_region ?_))
 refine asr (lr _) rfl ?_
 refine sq_nil (aw_seq (aw_seq (aw_region ?_)))
 refine sq_ev rfl (ev_mv (v := .sl _ _) (lr _)) ?_
 refine sq_ev rfl (ev_len_map sl34 (lr _)) ?_
 refine mvr (lr _) rfl ?_
 refine sq_nil (aw_block ?_)
 refine aw_sub (sub_token 5 1 (lr _)) ?_
 refine aw_loopk (ι := { k : Nat // k ≤ xs.length }) [2, 8, 9] (fun i => [(10, I i.1), (5, .own 1 1 (((xs.take i.1).map fun x => (scn p x).least).map fun x => [I x]))]) (fun H i => H.set 1 (.tok (((xs.take i.1).map fun x => (scn p x).least).map fun x => [I x]).length)) (fun i => xs.length - i.1) (⟨0, Nat.zero_le _⟩) ⟨lr _, lr _, lr _, lr _, lr _, trivial⟩ rfl ?_
 rintro ⟨k, hk⟩
 dsimp only [keepS, St.put, sget, slotsOf, List.map_cons, List.map_nil, List.cons_append, List.nil_append, List.length_cons, List.length_nil, Nat.reduceBEq, Nat.reduceAdd, cond_true, cond_false]
 have hl1 := cv.len
 have hl2 := gp.len
 refine aw_seq (aw_region ?_)
 refine sq_ev rfl (ev_lss (lr _) (lr _)) ?_
 refine sq_nil (aw_seq ?_)
 refine aw_cond (lr _) (fun c1 => ?_) (fun c1 => ?_)
 ·
  have c1' := c1
  try simp only [qq] at c1'
  have hk' : k < xs.length := by omega
  have hlt := cv.rng _ (List.getElem_mem hk')
  have he := scn_eq hlt
  have eS : ((xs.take (k + 1)).map fun x => (scn p x).least).map (fun x => [I x]) = ((xs.take k).map fun x => (scn p x).least).map (fun x => [I x]) ++ [[I (p.scenes[xs[k]]).least]] := by rw [map_take_succ _ hk', List.map_append, he]; rfl
  refine aw_skip (aw_seq (aw_block (aw_seq (aw_region ?_))))
  refine sq_ev rfl (ev_index_map sl34 (lr _) (lr _) rfl (by omega)) ?_
  refine sq_ev rfl (ev_load_i (lr _) ty3 rfl) ?_
  refine asr (lr _) rfl ?_
  refine sq_nil (aw_region ?_)
  refine sq_ev rfl (ev_mv (v := .own _ _ _) (lr _)) ?_
  refine sq_ev rfl (ev_fieldAddr fo110_0 (lr _)) ?_
  refine sq_ev rfl (ev_fieldAddr fo27_3 (lr _)) ?_
  refine sq_ev rfl (ev_load (lr _) rfl ty25 rfl) ?_
  refine mvr (lr _) rfl ?_
  refine sq_ev rfl (ev_index_map sl25 (lr _) (lr _) rfl (by omega)) ?_
  refine sq_ev rfl (ev_fieldAddr_i fo84_1 (lr _)) ?_
  refine sq_ev rfl (ev_load_i (lr _) ty3 rfl) ?_
  refine sq_ev rfl (ev_buildSlice (es := [[_]]) sf34 rfl rfl rfl rfl) ?_
  refine sq_append rfl sf34 Tryz.underlying34 rfl rfl (less_slx _ _) (Nat.succ_pos _) (by simp; omega) (by simp; omega) ?_
  refine sq_ev rfl (ev_as (v := .own _ _ _) (lr _)) ?_
  refine sq_nil (aw_region ?_)
  refine sq_ev rfl (ev_add (lr _) (lr _) (wr (by omega) (by omega))) ?_
  refine mvr (lr _) rfl ?_
  refine sq_nil ?_
  exact ⟨⟨k + 1, by omega⟩, by simp only; omega, Sub.fin 2 ⟨lr _, Less.eq (b := .own 1 1 (((xs.take (k + 1)).map fun x => (scn p x).least).map fun x => [I x])) (by rw [eS] <;> rfl), lr _, lr _, lr _, trivial⟩ (congrArg (fun n => [_, AObj.tok n]) (congrArg List.length eS.symm)) (by simp [slotsIn, objsIn, sget, keepS, AObj.inB, AV.inB, AV.inL, AV.inE, inE_map, inE_ints, inE_sc, -List.map_append, -List.map_take, -List.map_map]) (by simp [slotsIn, objsIn, sget, keepS, AObj.inB, AV.inB, AV.inL, AV.inE, inE_map, inE_ints, inE_sc, -List.map_append, -List.map_take, -List.map_map]) (by simp [he0])⟩
 ·
  have c1' := c1
  try simp only [qq] at c1'
  obtain rfl : k = xs.length := by omega
  refine aw_exit (aw_seq (aw_region ?_))
  refine sq_ev rfl (ev_mv (v := .own _ _ _) (lr _)) ?_
  refine sq_ev rfl (ev_call en167 (lr _) (nsum_pure (leasts p xs) (leasts_mem gp cv) (by simp [leasts]; have := cv.len; omega)) ⟨Less.trans (less_own _ _ _) (Less.eq (by simp [leasts])), trivial⟩) ?_
  refine asr (lr _) rfl ?_
  refine sq_nil (aw_ret ?_)
  exact retQ_pure (v := .raw _) rfl rfl (Less.eq (by simp [lsum]))

set_option maxHeartbeats 1000000 in
/-- (kelir/night.played).most -/
theorem nmost_pure (p : Pl) (l xs : List Nat) (gp : GP p) (cv : CV p xs) : APure Tryz.prog 161 [played p l, nats xs] (I (hsum p xs)) := by
 refine apure_of (rs := [.tmp 4]) Tryz.func161 rfl rfl (Nat.le_of_ble_eq_true rfl) (by simp [AV.pureL, AV.pureB, AV.pureE, pureE_map]) (rfl) fun e0 he0 => ?_
 refine aw_seq (aw_region ?_)
 refine sq_box rfl (lr _) rfl ?_
 refine asr (lr _) rfl ?_
 refine sq_nil (aw_seq (aw_region ?_))
 refine asr (lr _) rfl ?_
 refine sq_nil (aw_seq (aw_seq (aw_region ?_)))
 refine sq_ev rfl (ev_mv (v := .sl _ _) (lr _)) ?_
 refine sq_ev rfl (ev_len_map sl34 (lr _)) ?_
 refine mvr (lr _) rfl ?_
 refine sq_nil (aw_block ?_)
 refine aw_sub (sub_token 5 1 (lr _)) ?_
 refine aw_loopk (ι := { k : Nat // k ≤ xs.length }) [2, 8, 9] (fun i => [(10, I i.1), (5, .own 1 1 (((xs.take i.1).map fun x => (scn p x).most).map fun x => [I x]))]) (fun H i => H.set 1 (.tok (((xs.take i.1).map fun x => (scn p x).most).map fun x => [I x]).length)) (fun i => xs.length - i.1) (⟨0, Nat.zero_le _⟩) ⟨lr _, lr _, lr _, lr _, lr _, trivial⟩ rfl ?_
 rintro ⟨k, hk⟩
 dsimp only [keepS, St.put, sget, slotsOf, List.map_cons, List.map_nil, List.cons_append, List.nil_append, List.length_cons, List.length_nil, Nat.reduceBEq, Nat.reduceAdd, cond_true, cond_false]
 have hl1 := cv.len
 have hl2 := gp.len
 refine aw_seq (aw_region ?_)
 refine sq_ev rfl (ev_lss (lr _) (lr _)) ?_
 refine sq_nil (aw_seq ?_)
 refine aw_cond (lr _) (fun c1 => ?_) (fun c1 => ?_)
 ·
  have c1' := c1
  try simp only [qq] at c1'
  have hk' : k < xs.length := by omega
  have hlt := cv.rng _ (List.getElem_mem hk')
  have he := scn_eq hlt
  have eS : ((xs.take (k + 1)).map fun x => (scn p x).most).map (fun x => [I x]) = ((xs.take k).map fun x => (scn p x).most).map (fun x => [I x]) ++ [[I (p.scenes[xs[k]]).most]] := by rw [map_take_succ _ hk', List.map_append, he]; rfl
  refine aw_skip (aw_seq (aw_block (aw_seq (aw_region ?_))))
  refine sq_ev rfl (ev_index_map sl34 (lr _) (lr _) rfl (by omega)) ?_
  refine sq_ev rfl (ev_load_i (lr _) ty3 rfl) ?_
  refine asr (lr _) rfl ?_
  refine sq_nil (aw_region ?_)
  refine sq_ev rfl (ev_mv (v := .own _ _ _) (lr _)) ?_
  refine sq_ev rfl (ev_fieldAddr fo110_0 (lr _)) ?_
  refine sq_ev rfl (ev_fieldAddr fo27_3 (lr _)) ?_
  refine sq_ev rfl (ev_load (lr _) rfl ty25 rfl) ?_
  refine mvr (lr _) rfl ?_
  refine sq_ev rfl (ev_index_map sl25 (lr _) (lr _) rfl (by omega)) ?_
  refine sq_ev rfl (ev_fieldAddr_i fo84_2 (lr _)) ?_
  refine sq_ev rfl (ev_load_i (lr _) ty3 rfl) ?_
  refine sq_ev rfl (ev_buildSlice (es := [[_]]) sf34 rfl rfl rfl rfl) ?_
  refine sq_append rfl sf34 Tryz.underlying34 rfl rfl (less_slx _ _) (Nat.succ_pos _) (by simp; omega) (by simp; omega) ?_
  refine sq_ev rfl (ev_as (v := .own _ _ _) (lr _)) ?_
  refine sq_nil (aw_region ?_)
  refine sq_ev rfl (ev_add (lr _) (lr _) (wr (by omega) (by omega))) ?_
  refine mvr (lr _) rfl ?_
  refine sq_nil ?_
  exact ⟨⟨k + 1, by omega⟩, by simp only; omega, Sub.fin 2 ⟨lr _, Less.eq (b := .own 1 1 (((xs.take (k + 1)).map fun x => (scn p x).most).map fun x => [I x])) (by rw [eS] <;> rfl), lr _, lr _, lr _, trivial⟩ (congrArg (fun n => [_, AObj.tok n]) (congrArg List.length eS.symm)) (by simp [slotsIn, objsIn, sget, keepS, AObj.inB, AV.inB, AV.inL, AV.inE, inE_map, inE_ints, inE_sc, -List.map_append, -List.map_take, -List.map_map]) (by simp [slotsIn, objsIn, sget, keepS, AObj.inB, AV.inB, AV.inL, AV.inE, inE_map, inE_ints, inE_sc, -List.map_append, -List.map_take, -List.map_map]) (by simp [he0])⟩
 ·
  have c1' := c1
  try simp only [qq] at c1'
  obtain rfl : k = xs.length := by omega
  refine aw_exit (aw_seq (aw_region ?_))
  refine sq_ev rfl (ev_mv (v := .own _ _ _) (lr _)) ?_
  refine sq_ev rfl (ev_call en167 (lr _) (nsum_pure (mosts p xs) (mosts_mem gp cv) (by simp [mosts]; have := cv.len; omega)) ⟨Less.trans (less_own _ _ _) (Less.eq (by simp [mosts])), trivial⟩) ?_
  refine asr (lr _) rfl ?_
  refine sq_nil (aw_ret ?_)
  exact retQ_pure (v := .raw _) rfl rfl (Less.eq (by simp [hsum]))

set_option maxHeartbeats 1000000 in
/-- (kelir/night.played).of -/
theorem nof_pure (p : Pl) (l : List Nat) (part : Int) (gp : GP p) (cv : CV p l) : APure Tryz.prog 136 [played p l, I part] (nats (ofP p l part)) := by
 refine apure_of (rs := [.tmp 4]) Tryz.func136 rfl rfl (Nat.le_of_ble_eq_true rfl) (by simp [AV.pureL, AV.pureB, AV.pureE, pureE_map]) (by simp [AV.pureL, AV.pureB, AV.pureE, pureE_map]) fun e0 he0 => ?_
 refine aw_seq (aw_region ?_)
 refine sq_box rfl (lr _) rfl ?_
 refine asr (lr _) rfl ?_
 refine sq_nil (aw_seq (aw_region ?_))
 refine asr (lr _) rfl ?_
 refine sq_nil (aw_seq (aw_seq (aw_region ?_)))
 refine sq_ev rfl (ev_fieldAddr fo110_1 (lr _)) ?_
 refine sq_ev rfl (ev_load (lr _) rfl ty34 rfl) ?_
 refine sq_ev rfl (ev_len_map sl34 (lr _)) ?_
 refine mvr (lr _) rfl ?_
 refine sq_nil (aw_block ?_)
 refine aw_sub (sub_token 5 1 (lr _)) ?_
 refine aw_loopk (ι := { k : Nat // k ≤ l.length }) [1, 2, 9, 10] (fun i => [(11, I i.1), (5, .own 1 1 (((l.take i.1).filter (inPart p part)).map fun (x : Nat) => [I x]))]) (fun H i => H.set 1 (.tok (((l.take i.1).filter (inPart p part)).map fun (x : Nat) => [I x]).length)) (fun i => l.length - i.1) (⟨0, Nat.zero_le _⟩) ⟨lr _, lr _, lr _, lr _, lr _, lr _, trivial⟩ rfl ?_
 rintro ⟨k, hk⟩
 dsimp only [keepS, St.put, sget, slotsOf, List.map_cons, List.map_nil, List.cons_append, List.nil_append, List.length_cons, List.length_nil, Nat.reduceBEq, Nat.reduceAdd, cond_true, cond_false]
 have hl1 := cv.len
 have hl2 := gp.len
 have hft := ft_len (inPart p part) l k
 refine aw_seq (aw_region ?_)
 refine sq_ev rfl (ev_lss (lr _) (lr _)) ?_
 refine sq_nil (aw_seq ?_)
 refine aw_cond (lr _) (fun c1 => ?_) (fun c1 => ?_)
 ·
  have c1' := c1
  try simp only [qq] at c1'
  have hk' : k < l.length := by omega
  have hlt := cv.rng _ (List.getElem_mem hk')
  have he := scn_eq hlt
  refine aw_skip (aw_seq (aw_block (aw_seq (aw_region ?_))))
  refine sq_ev rfl (ev_index_map sl34 (lr _) (lr _) rfl (by omega)) ?_
  refine sq_ev rfl (ev_load_i (lr _) ty3 rfl) ?_
  refine asr (lr _) rfl ?_
  refine sq_nil (aw_seq (aw_region ?_))
  refine sq_ev rfl (ev_fieldAddr fo110_0 (lr _)) ?_
  refine sq_ev rfl (ev_fieldAddr fo27_3 (lr _)) ?_
  refine sq_ev rfl (ev_load (lr _) rfl ty25 rfl) ?_
  refine mvr (lr _) rfl ?_
  refine sq_ev rfl (ev_index_map sl25 (lr _) (lr _) rfl (by omega)) ?_
  refine sq_ev rfl (ev_fieldAddr_i fo84_0 (lr _)) ?_
  refine sq_ev rfl (ev_load_i (lr _) ty3 rfl) ?_
  refine mvr (lr _) rfl ?_
  refine sq_ev rfl (ev_eql (lr _) (lr _)) ?_
  refine sq_nil ?_
  refine aw_cond (lr _) (fun c2 => ?_) (fun c2 => ?_)
  ·
   have c2' := c2
   try simp only [qq] at c2'
   have eS : ((l.take (k + 1)).filter (inPart p part)).map (fun (x : Nat) => [I x]) = ((l.take k).filter (inPart p part)).map (fun (x : Nat) => [I x]) ++ [[I l[k]]] := by rw [filter_take_succ _ hk', if_pos (by simp [inPart, he, c2']), List.map_append]; rfl
   refine aw_region ?_
   refine sq_ev rfl (ev_mv (v := .own _ _ _) (lr _)) ?_
   refine mvr (lr _) rfl ?_
   refine sq_ev rfl (ev_buildSlice (es := [[_]]) sf34 rfl rfl rfl rfl) ?_
   refine sq_append rfl sf34 Tryz.underlying34 rfl rfl (less_slx _ _) (Nat.succ_pos _) (by simp; omega) (by simp; omega) ?_
   refine sq_ev rfl (ev_as (v := .own _ _ _) (lr _)) ?_
   refine sq_nil (aw_region ?_)
   refine sq_ev rfl (ev_add (lr _) (lr _) (wr (by omega) (by omega))) ?_
   refine mvr (lr _) rfl ?_
   refine sq_nil ?_
   exact ⟨⟨k + 1, by omega⟩, by simp only; omega, Sub.fin 2 ⟨lr _, Less.eq (b := .own 1 1 (((l.take (k + 1)).filter (inPart p part)).map fun (x : Nat) => [I x])) (by rw [eS] <;> rfl), lr _, lr _, lr _, lr _, trivial⟩ (congrArg (fun n => [_, AObj.tok n]) (congrArg List.length eS.symm)) (by simp [slotsIn, objsIn, sget, keepS, AObj.inB, AV.inB, AV.inL, AV.inE, inE_map, inE_ints, inE_sc, -List.map_append, -List.map_take, -List.map_map]) (by simp [slotsIn, objsIn, sget, keepS, AObj.inB, AV.inB, AV.inL, AV.inE, inE_map, inE_ints, inE_sc, -List.map_append, -List.map_take, -List.map_map]) (by simp [he0])⟩
  ·
   have c2' := c2
   try simp only [qq] at c2'
   have eS : ((l.take (k + 1)).filter (inPart p part)).map (fun (x : Nat) => [I x]) = ((l.take k).filter (inPart p part)).map (fun (x : Nat) => [I x]) := by rw [filter_take_succ _ hk', if_neg (by simp [inPart, he, c2']), List.append_nil]
   refine aw_skip (aw_region ?_)
   refine sq_ev rfl (ev_add (lr _) (lr _) (wr (by omega) (by omega))) ?_
   refine mvr (lr _) rfl ?_
   refine sq_nil ?_
   exact ⟨⟨k + 1, by omega⟩, by simp only; omega, Sub.fin 2 ⟨lr _, Less.eq (b := .own 1 1 (((l.take (k + 1)).filter (inPart p part)).map fun (x : Nat) => [I x])) (by rw [eS] <;> rfl), lr _, lr _, lr _, lr _, trivial⟩ (congrArg (fun n => [_, AObj.tok n]) (congrArg List.length eS.symm)) (by simp [slotsIn, objsIn, sget, keepS, AObj.inB, AV.inB, AV.inL, AV.inE, inE_map, inE_ints, inE_sc, -List.map_append, -List.map_take, -List.map_map]) (by simp [slotsIn, objsIn, sget, keepS, AObj.inB, AV.inB, AV.inL, AV.inE, inE_map, inE_ints, inE_sc, -List.map_append, -List.map_take, -List.map_map]) (by simp [he0])⟩
 ·
  have c1' := c1
  try simp only [qq] at c1'
  obtain rfl : k = l.length := by omega
  refine aw_exit (aw_seq (aw_region ?_))
  refine sq_ev rfl (ev_mv (v := .own _ _ _) (lr _)) ?_
  refine sq_ev rfl (ev_as (v := .own _ _ _) (lr _)) ?_
  refine sq_nil (aw_ret ?_)
  exact retQ_pure (v := .own _ _ _) rfl rfl (Less.trans (less_own _ _ _) (Less.eq (by simp [ofP])))

set_option maxHeartbeats 400000 in
/-- kelir/night.both -/
theorem nboth_pure (a b c d : Int) : APure Tryz.prog 98 [.agg [I a, I b], .agg [I c, I d]] (.agg [I (max a c), I (min b d)]) := by
 refine apure_of (rs := [.cell 4 23]) Tryz.func98 rfl rfl (Nat.le_of_ble_eq_true rfl) (by simp [AV.pureL, AV.pureB, AV.pureE, pureE_map]) (rfl) fun e0 he0 => ?_
 refine aw_seq (aw_region ?_)
 refine sq_box rfl (lr _) rfl ?_
 refine sq_box rfl (lr _) rfl ?_
 refine sq_alloc rfl z23 ?_
 refine sq_nil (aw_seq (aw_region ?_))
 refine sq_ev rfl (ev_fieldAddr fo23_0 (lr _)) ?_
 refine sq_ev rfl (ev_load (lr _) rfl ty3 rfl) ?_
 refine sq_ev rfl (ev_fieldAddr fo23_0 (lr _)) ?_
 refine sq_ev rfl (ev_load (lr _) rfl ty3 rfl) ?_
 refine sq_ev rfl (ev_max2 (lr _) (lr _)) ?_
 refine sq_ev rfl (ev_fieldAddr fo23_1 (lr _)) ?_
 refine sq_ev rfl (ev_load (lr _) rfl ty3 rfl) ?_
 refine sq_ev rfl (ev_fieldAddr fo23_1 (lr _)) ?_
 refine sq_ev rfl (ev_load (lr _) rfl ty3 rfl) ?_
 refine sq_ev rfl (ev_min2 (lr _) (lr _)) ?_
 refine sq_ev rfl (ev_build bi23 rfl) ?_
 refine sq_store rfl (lr _) (lr _) rfl rfl ty23 rfl rfl ?_
 refine sq_nil (aw_ret ?_)
 exact retQ_res (vs := [.agg _]) rfl rfl ⟨resVar_cell rfl rfl ty23 rfl, trivial⟩ (Less.eq (by simp))

set_option maxHeartbeats 400000 in
/-- kelir/night.wider -/
theorem nwider_pure (a b c d : Int) (m : Bool) : APure Tryz.prog 97 [.agg [I a, I b], B m, .agg [I c, I d]] (.agg (if m then [I (min a c), I (max b d)] else [I c, I d])) := by
 refine apure_of (rs := [.cell 6 23]) Tryz.func97 rfl rfl (Nat.le_of_ble_eq_true rfl) (by simp [AV.pureL, AV.pureB, AV.pureE, pureE_map]) (by cases m <;> rfl) fun e0 he0 => ?_
 refine aw_seq (aw_region ?_)
 refine sq_box rfl (lr _) rfl ?_
 refine sq_box rfl (lr _) rfl ?_
 refine sq_alloc rfl z23 ?_
 refine sq_nil (aw_seq (aw_seq (aw_region ?_)))
 refine mvr (lr _) rfl ?_
 refine sq_ev rfl (ev_not (lr _)) ?_
 refine sq_nil ?_
 refine aw_cond (lr _) (fun c1 => ?_) (fun c1 => ?_)
 ·
  have c1' := c1
  try simp only [qq] at c1'
  refine aw_seq (aw_region ?_)
  refine sq_ev rfl (ev_load_agg (lr _) rfl ty23 rfl) ?_
  refine sq_store rfl (lr _) (lr _) rfl rfl ty23 rfl rfl ?_
  refine sq_nil (aw_ret ?_)
  exact retQ_res (vs := [.agg _]) rfl rfl ⟨resVar_cell rfl rfl ty23 rfl, trivial⟩ (Less.eq (by simp [*]))
 ·
  have c1' := c1
  try simp only [qq] at c1'
  refine aw_skip (aw_seq (aw_region ?_))
  refine sq_ev rfl (ev_fieldAddr fo23_0 (lr _)) ?_
  refine sq_ev rfl (ev_load (lr _) rfl ty3 rfl) ?_
  refine sq_ev rfl (ev_fieldAddr fo23_0 (lr _)) ?_
  refine sq_ev rfl (ev_load (lr _) rfl ty3 rfl) ?_
  refine sq_ev rfl (ev_min2 (lr _) (lr _)) ?_
  refine sq_ev rfl (ev_fieldAddr fo23_1 (lr _)) ?_
  refine sq_ev rfl (ev_load (lr _) rfl ty3 rfl) ?_
  refine sq_ev rfl (ev_fieldAddr fo23_1 (lr _)) ?_
  refine sq_ev rfl (ev_load (lr _) rfl ty3 rfl) ?_
  refine sq_ev rfl (ev_max2 (lr _) (lr _)) ?_
  refine sq_ev rfl (ev_build bi23 rfl) ?_
  refine sq_store rfl (lr _) (lr _) rfl rfl ty23 rfl rfl ?_
  refine sq_nil (aw_ret ?_)
  exact retQ_res (vs := [.agg _]) rfl rfl ⟨resVar_cell rfl rfl ty23 rfl, trivial⟩ (Less.eq (by simp [*]))

set_option maxHeartbeats 400000 in
/-- (kelir/night.played).lasts -/
theorem nlasts_pure (p : Pl) (l xs : List Nat) (gp : GP p) (cv : CV p xs) : APure Tryz.prog 135 [played p l, nats xs] (.agg [I (lsum p xs), I (hsum p xs)]) := by
 refine apure_of (rs := [.cell 4 23]) Tryz.func135 rfl rfl (Nat.le_of_ble_eq_true rfl) (by simp [AV.pureL, AV.pureB, AV.pureE, pureE_map]) (rfl) fun e0 he0 => ?_
 refine aw_seq (aw_region ?_)
 refine sq_box rfl (lr _) rfl ?_
 refine sq_alloc rfl z23 ?_
 refine sq_nil (aw_seq (aw_region ?_))
 refine sq_ev rfl (ev_load_agg (lr _) rfl ty110 rfl) ?_
 refine sq_ev rfl (ev_makeFunc) ?_
 refine sq_ev rfl (ev_load_agg (lr _) rfl ty110 rfl) ?_
 refine sq_ev rfl (ev_makeFunc) ?_
 refine sq_ev rfl (ev_build bi187 rfl) ?_
 refine sq_alloc rfl z187 ?_
 refine sq_store rfl (lr _) (lr _) rfl rfl ty187 rfl rfl ?_
 refine sq_nil (aw_seq ?_)
 refine aw_draw 9 mo (by kernel_rfl) ?_
 refine dr_ev rfl (ev_index_box ar187 (lr _) (lr _) rfl (by decide)) ?_
 refine dr_ev rfl (ev_load (lr _) rfl ty186 rfl) ?_
 refine dr_ev rfl (ev_mv (v := .sl _ _) (lr _)) ?_
 refine dr_ev rfl (ev_call en160 (lr _) (nleast_pure p l xs gp cv) ⟨lr _, lr _, trivial⟩) ?_
 refine dr_ev rfl (ev_index_box ar187 (lr _) (lr _) rfl (by decide)) ?_
 refine dr_ev rfl (ev_load (lr _) rfl ty186 rfl) ?_
 refine dr_ev rfl (ev_mv (v := .sl _ _) (lr _)) ?_
 refine dr_ev rfl (ev_call en161 (lr _) (nmost_pure p l xs gp cv) ⟨lr _, lr _, trivial⟩) ?_
 refine dr_ev rfl (ev_build bi23 rfl) ?_
 refine dr_end ?_
 refine sq_store rfl (lr _) (lr _) rfl rfl ty23 rfl rfl ?_
 refine sq_nil (aw_ret ?_)
 exact retQ_res (vs := [.agg _]) rfl rfl ⟨resVar_cell rfl rfl ty23 rfl, trivial⟩ (Less.eq (by simp))


end Go.Proofs.YtjghdbdiejaacaaGreatDoor
