/-
  A part of the proof: conditions: none beyond each theorem's own.
-/
import Derived.Test.YtjghdbdiejaacaaGreatDoorLogicC
import Derived.Test.YtjghdbdiejaacaaGreatDoorSpecA
import Derived.KernelRfl
import Derived.Lib.LaidTab
import Derived.Lib.ItoaNum
import Derived.Test.YtjghdbdiejaacaaGreatDoorProg
import Derived.Test.YtjghdbdiejaacaaGreatDoorWalkF
import Derived.Test.YtjghdbdiejaacaaGreatDoorWalkG
import Derived.ChangeKeysEq
import Derived.Test.YtjghdbdiejaacaaGreatDoorLogicA
import Derived.Test.YtjghdbdiejaacaaGreatDoorLogicB
import Derived.Test.YtjghdbdiejaacaaGreatDoorLogicD
import Derived.Test.YtjghdbdiejaacaaGreatDoorShelf
import Derived.Test.YtjghdbdiejaacaaGreatDoorWalkA
import Derived.Test.YtjghdbdiejaacaaGreatDoorWalkB
import Derived.Test.YtjghdbdiejaacaaGreatDoorWalkC
import Derived.Test.YtjghdbdiejaacaaGreatDoorWalkD
import Derived.Test.YtjghdbdiejaacaaGreatDoorWalkE
import Derived.Test.YtjghdbdiejaacaaGreatDoorRow
set_option linter.all false
namespace Go.Proofs.YtjghdbdiejaacaaGreatDoor
open Go Go.Ab Ni
section
variable [Tabs] {c : Ctx} {ops : Array Oper} {Q : AExit → St → Prop} {i : Nat} {rest : List Oper} {s : St} {d : Option Tmp} {x y z : Operand} {t : TypeId} {p : String} {af : Array Edge} {v : Value} {j u n : Nat} {want : Bool} {l : List (List AV)}
theorem pf (hd : dOK c.nt d = true) (hx : Less (s.op x) (.raw (.bool false))) (h : Less (s.op z) (.raw v)) (k : SeqWP c ops Q (i + 1) rest (s.put d (.raw v))) : SeqWP c ops Q i (⟨d, .pick x y z, t, p, af, none⟩ :: rest) s := sq_ev hd (ev_pickF hx h) k
theorem ysl (hj : gslot ops j = some u) (ht : Nat.blt u c.nt = true) (hb : Less (sget s.sl u) (.raw (.bool want))) (hd : dOK c.nt d = true) (h : Less (s.op x) (.sl n l)) (k : SeqWP c ops Q (i + 1) rest (s.put d (.sl n l))) : SeqWP c ops Q i (⟨d, .move x, t, p, af, some (j, want)⟩ :: rest) s := sq_yes hj ht hb hd (ev_mv h) k
theorem xtr {m : List AV} {w : AV} (hd : dOK c.nt d = true) (hx : Less (s.op x) (.tup m)) (hv : m[n]? = some w) (k : SeqWP c ops Q (i + 1) rest (s.put d w)) : SeqWP c ops Q i (⟨d, .extract x n, t, p, af, none⟩ :: rest) s := sq_ev hd (ev_extract hx hv) k
theorem mvs (hd : dOK c.nt d = true) (h : Less (s.op x) (.sl n l)) (k : SeqWP c ops Q (i + 1) rest (s.put d (.sl n l))) : SeqWP c ops Q i (⟨d, .move x, t, p, af, none⟩ :: rest) s := sq_ev hd (ev_mv h) k
theorem ass (hd : dOK c.nt d = true) (h : Less (s.op x) (.sl n l)) (k : SeqWP c ops Q (i + 1) rest (s.put d (.sl n l))) : SeqWP c ops Q i (⟨d, .assign x, t, p, af, none⟩ :: rest) s := sq_ev hd (ev_as h) k
theorem ymr (hj : gslot ops j = some u) (ht : Nat.blt u c.nt = true) (hb : Less (sget s.sl u) (.raw (.bool want))) (hd : dOK c.nt d = true) (h : Less (s.op x) (.raw v)) (k : SeqWP c ops Q (i + 1) rest (s.put d (.raw v))) : SeqWP c ops Q i (⟨d, .move x, t, p, af, some (j, want)⟩ :: rest) s := sq_yes hj ht hb hd (ev_mv h) k
end
theorem en89 : Ent Tryz.prog 89 := Ent.of Tryz.func89 (by kernel_rfl) rfl
theorem en90 : Ent Tryz.prog 90 := Ent.of Tryz.func90 (by kernel_rfl) rfl
theorem en91 : Ent Tryz.prog 91 := Ent.of Tryz.func91 (by kernel_rfl) rfl
set_option maxHeartbeats 400000 in
theorem in_pure (n lo hi : Int) : APure Tryz.prog 89 [I n, I lo, I hi] (B (inn n lo hi)) := by
 refine apure_of (rs := [.tmp 6]) Tryz.func89 rfl rfl (Nat.le_of_ble_eq_true rfl) (by simp [AV.pureL, AV.pureB, AV.pureE, pureE_map]) (rfl) fun e0 he0 => ?_
 refine aw_seq (aw_region ?_)
 refine asr (lr _) rfl ?_
 refine sq_nil (aw_seq (aw_region ?_))
 refine mvr (lr _) rfl ?_
 refine mvr (lr _) rfl ?_
 refine sq_ev rfl (ev_geq (lr _) (lr _)) ?_
 refine mvr (lr _) rfl ?_
 refine sq_split 10 (lr _) (fun g1 => ?_) (fun g1 => ?_)
 ·
  have g1' := g1
  try simp only [qq] at g1'
  refine sq_yes rfl rfl (less_b g1) rfl (ev_mv (v := .raw _) (lr _)) ?_
  refine sq_yes rfl rfl (less_b g1) rfl (ev_mv (v := .raw _) (lr _)) ?_
  refine sq_yes rfl rfl (less_b g1) rfl (ev_leq (lr _) (lr _)) ?_
  refine sq_ev rfl (ev_pickT (v := .raw _) (less_b g1) (lr _)) ?_
  refine asr (lr _) rfl ?_
  refine sq_nil (aw_ret ?_)
  exact retQ_pure (v := .raw _) rfl rfl (Less.eq (by simp [inn, *]))
 ·
  have g1' := g1
  try simp only [qq] at g1'
  refine sq_no rfl rfl (less_b g1) rfl rfl ?_
  refine sq_no rfl rfl (less_b g1) rfl rfl ?_
  refine sq_no rfl rfl (less_b g1) rfl rfl ?_
  refine sq_ev rfl (ev_pickF (v := .raw _) (less_b g1) (lr _)) ?_
  refine asr (lr _) rfl ?_
  refine sq_nil (aw_ret ?_)
  exact retQ_pure (v := .raw _) rfl rfl (Less.eq (by simp [inn, *]))
set_option maxHeartbeats 400000 in
theorem window_pure (lo hi : Int) : APure Tryz.prog 90 [.agg [I lo, I hi]] (B (wnd lo hi)) := by
 refine apure_of (rs := [.tmp 2]) Tryz.func90 rfl rfl (Nat.le_of_ble_eq_true rfl) (by simp [AV.pureL, AV.pureB, AV.pureE, pureE_map]) (rfl) fun e0 he0 => ?_
 refine aw_seq (aw_region ?_)
 refine sq_box rfl (lr _) rfl ?_
 refine asr (lr _) rfl ?_
 refine sq_nil (aw_seq (aw_region ?_))
 refine sq_ev rfl (ev_fieldAddr fo23_0 (lr _)) ?_
 refine sq_ev rfl (ev_load (lr _) rfl ty3 rfl) ?_
 refine sq_ev rfl (ev_call en89 (lr _) (in_pure _ _ _) ⟨lr _, lr _, lr _, trivial⟩) ?_
 refine mvr (lr _) rfl ?_
 refine sq_split 6 (lr _) (fun g1 => ?_) (fun g1 => ?_)
 ·
  have g1' := g1
  try simp only [qq] at g1'
  refine sq_yes rfl rfl (less_b g1) rfl (ev_fieldAddr fo23_1 (lr _)) ?_
  refine sq_yes rfl rfl (less_b g1) rfl (ev_load (lr _) rfl ty3 rfl) ?_
  refine sq_yes rfl rfl (less_b g1) rfl (ev_fieldAddr fo23_0 (lr _)) ?_
  refine sq_yes rfl rfl (less_b g1) rfl (ev_load (lr _) rfl ty3 rfl) ?_
  refine sq_yes rfl rfl (less_b g1) rfl (ev_call en89 (lr _) (in_pure _ _ _) ⟨lr _, lr _, lr _, trivial⟩) ?_
  refine sq_ev rfl (ev_pickT (v := .raw _) (less_b g1) (lr _)) ?_
  refine mvr (lr _) rfl ?_
  refine sq_split 13 (lr _) (fun g2 => ?_) (fun g2 => ?_)
  ·
   have g2' := g2
   try simp only [qq] at g2'
   simp only [inn, Bool.and_eq_true, decide_eq_true_eq] at g1' g2'
   refine sq_yes rfl rfl (less_b g2) rfl (ev_fieldAddr fo23_1 (lr _)) ?_
   refine sq_yes rfl rfl (less_b g2) rfl (ev_load (lr _) rfl ty3 rfl) ?_
   refine sq_yes rfl rfl (less_b g2) rfl (ev_fieldAddr fo23_0 (lr _)) ?_
   refine sq_yes rfl rfl (less_b g2) rfl (ev_load (lr _) rfl ty3 rfl) ?_
   refine sq_yes rfl rfl (less_b g2) rfl (ev_sub (lr _) (lr _) (wr (by omega) (by omega))) ?_
   refine sq_yes rfl rfl (less_b g2) rfl (ev_leq (lr _) (lr _)) ?_
   refine sq_ev rfl (ev_pickT (v := .raw _) (less_b g2) (lr _)) ?_
   refine asr (lr _) rfl ?_
   refine sq_nil (aw_ret ?_)
   exact retQ_pure (v := .raw _) rfl rfl (Less.eq (by simp [wnd, *]))
  ·
   have g2' := g2
   try simp only [qq] at g2'
   refine sq_no rfl rfl (less_b g2) rfl rfl ?_
   refine sq_no rfl rfl (less_b g2) rfl rfl ?_
   refine sq_no rfl rfl (less_b g2) rfl rfl ?_
   refine sq_no rfl rfl (less_b g2) rfl rfl ?_
   refine sq_no rfl rfl (less_b g2) rfl rfl ?_
   refine sq_no rfl rfl (less_b g2) rfl rfl ?_
   refine sq_ev rfl (ev_pickF (v := .raw _) (less_b g2) (lr _)) ?_
   refine asr (lr _) rfl ?_
   refine sq_nil (aw_ret ?_)
   exact retQ_pure (v := .raw _) rfl rfl (Less.eq (by simp [wnd, *]))
 ·
  have g1' := g1
  try simp only [qq] at g1'
  refine sq_no rfl rfl (less_b g1) rfl rfl ?_
  refine sq_no rfl rfl (less_b g1) rfl rfl ?_
  refine sq_no rfl rfl (less_b g1) rfl rfl ?_
  refine sq_no rfl rfl (less_b g1) rfl rfl ?_
  refine sq_no rfl rfl (less_b g1) rfl rfl ?_
  refine sq_ev rfl (ev_pickF (v := .raw _) (less_b g1) (lr _)) ?_
  refine mvr (lr _) rfl ?_
  refine sq_no rfl rfl (lr _) rfl rfl ?_
  refine sq_no rfl rfl (lr _) rfl rfl ?_
  refine sq_no rfl rfl (lr _) rfl rfl ?_
  refine sq_no rfl rfl (lr _) rfl rfl ?_
  refine sq_no rfl rfl (lr _) rfl rfl ?_
  refine sq_no rfl rfl (lr _) rfl rfl ?_
  refine pf rfl (lr _) (lr _) ?_
  refine asr (lr _) rfl ?_
  refine sq_nil (aw_ret ?_)
  exact retQ_pure (v := .raw _) rfl rfl (Less.eq (by simp [wnd, *]))
set_option maxHeartbeats 2000000 in
theorem scenes_pure (p : Pl) (hl : p.scenes.length ≤ 1000000) : APure Tryz.prog 91 [plan p] (B (decide (ScOK p.scenes))) := by
 refine apure_of (rs := [.tmp 2]) Tryz.func91 rfl rfl (Nat.le_of_ble_eq_true rfl) (by simp [AV.pureL, AV.pureB, AV.pureE, pureE_map]) (rfl) fun e0 he0 => ?_
 refine aw_seq (aw_region ?_)
 refine sq_box rfl (lr _) rfl ?_
 refine asr (lr _) rfl ?_
 refine sq_nil (aw_seq (aw_region ?_))
 refine asr (lr _) rfl ?_
 refine sq_nil (aw_seq (aw_seq (aw_region ?_)))
 refine asr (lr _) rfl ?_
 refine sq_nil (aw_block ?_)
 refine aw_loopk (ι := { k : Nat // k ≤ p.scenes.length ∧ ∀ i, (h : i < p.scenes.length) → i < k → scBad p.scenes i h = false }) [1] (fun i => [(3, I (loosies (p.scenes.take i.1))), (4, I i.1)]) (fun H i => H) (fun i => p.scenes.length - i.1) (⟨0, Nat.zero_le _, by omega⟩) ⟨lr _, lr _, lr _, trivial⟩ rfl ?_
 rintro ⟨k, hk, hok⟩
 dsimp only [keepS, St.put, sget, slotsOf, List.map_cons, List.map_nil, List.cons_append, List.nil_append, List.length_cons, List.length_nil, Nat.reduceBEq, Nat.reduceAdd, cond_true, cond_false]
 have hlo := loosies_le (p.scenes.take k)
 have hlt := List.length_take_le k p.scenes
 refine aw_seq (aw_seq (aw_region ?_))
 refine mvr (lr _) rfl ?_
 refine sq_ev rfl (ev_fieldAddr fo27_3 (lr _)) ?_
 refine sq_ev rfl (ev_load (lr _) rfl ty25 rfl) ?_
 refine sq_ev rfl (ev_len_map sl25 (lr _)) ?_
 refine sq_ev rfl (ev_lss (lr _) (lr _)) ?_
 refine sq_nil ?_
 refine aw_cond (lr _) (fun c1 => ?_) (fun c1 => ?_)
 ·
  have c1' := c1
  try simp only [qq] at c1'
  refine aw_skip (aw_seq (aw_block (aw_seq (aw_region ?_))))
  refine sq_ev rfl (ev_fieldAddr fo27_3 (lr _)) ?_
  refine sq_ev rfl (ev_load (lr _) rfl ty25 rfl) ?_
  refine mvr (lr _) rfl ?_
  refine sq_ev rfl (ev_index_map sl25 (lr _) (lr _) rfl (by omega)) ?_
  refine sq_ev rfl (ev_load_agg_i (lr _) ty84 (Nat.le_of_ble_eq_true rfl)) ?_
  refine sq_alloc rfl z84 ?_
  refine sq_store rfl (lr _) (lr _) rfl rfl ty84 rfl rfl ?_
  refine sq_nil (aw_seq (aw_seq ?_))
  refine aw_draw 50 mo (by kernel_rfl) ?_
  refine dr_ev rfl (ev_fieldAddr fo84_0 (lr _)) ?_
  refine dr_ev rfl (ev_load (lr _) rfl ty3 rfl) ?_
  refine dr_ev rfl (ev_call en89 (lr _) (in_pure _ _ _) ⟨lr _, lr _, lr _, trivial⟩) ?_
  refine dr_ev rfl (ev_not (lr _)) ?_
  refine dr_ev rfl (ev_mv (v := .raw _) (lr _)) ?_
  refine dr_split 22 (lr _) (fun g2 => ?_) (fun g2 => ?_)
  ·
   have g2' := g2
   try simp only [qq] at g2'
   refine dr_no rfl rfl (less_b g2) rfl rfl ?_
   refine dr_no rfl rfl (less_b g2) rfl rfl ?_
   refine dr_no rfl rfl (less_b g2) rfl rfl ?_
   refine dr_no rfl rfl (lr _) rfl rfl ?_
   refine dr_no rfl rfl (lr _) rfl rfl ?_
   refine dr_no rfl rfl (lr _) rfl rfl ?_
   refine dr_no rfl rfl (lr _) rfl rfl ?_
   refine dr_no rfl rfl (lr _) rfl rfl ?_
   refine dr_no rfl rfl (lr _) rfl rfl ?_
   refine dr_no rfl rfl (lr _) rfl rfl ?_
   refine dr_no rfl rfl (lr _) rfl rfl ?_
   refine dr_no rfl rfl (lr _) rfl rfl ?_
   refine dr_no rfl rfl (lr _) rfl rfl ?_
   refine dr_no rfl rfl (less_b g2) rfl rfl ?_
   refine dr_ev rfl (ev_pickT (v := .raw _) (less_b g2) (lr _)) ?_
   refine dr_ev rfl (ev_mv (v := .raw _) (lr _)) ?_
   refine dr_no rfl rfl (lr _) rfl rfl ?_
   refine dr_no rfl rfl (lr _) rfl rfl ?_
   refine dr_no rfl rfl (lr _) rfl rfl ?_
   refine dr_no rfl rfl (lr _) rfl rfl ?_
   refine dr_ev rfl (ev_pickT (v := .raw _) (lr _) (lr _)) ?_
   refine dr_ev rfl (ev_mv (v := .raw _) (lr _)) ?_
   refine dr_no rfl rfl (lr _) rfl rfl ?_
   refine dr_no rfl rfl (lr _) rfl rfl ?_
   refine dr_no rfl rfl (lr _) rfl rfl ?_
   refine dr_no rfl rfl (lr _) rfl rfl ?_
   refine dr_no rfl rfl (lr _) rfl rfl ?_
   refine dr_no rfl rfl (lr _) rfl rfl ?_
   refine dr_ev rfl (ev_pickT (v := .raw _) (lr _) (lr _)) ?_
   refine dr_ev rfl (ev_mv (v := .raw _) (lr _)) ?_
   refine dr_no rfl rfl (lr _) rfl rfl ?_
   refine dr_no rfl rfl (lr _) rfl rfl ?_
   refine dr_no rfl rfl (lr _) rfl rfl ?_
   refine dr_no rfl rfl (lr _) rfl rfl ?_
   refine dr_no rfl rfl (lr _) rfl rfl ?_
   refine dr_no rfl rfl (lr _) rfl rfl ?_
   refine dr_no rfl rfl (lr _) rfl rfl ?_
   refine dr_no rfl rfl (lr _) rfl rfl ?_
   refine dr_ev rfl (ev_pickT (v := .raw _) (lr _) (lr _)) ?_
   refine dr_ev rfl (ev_mv (v := .raw _) (lr _)) ?_
   refine dr_no rfl rfl (lr _) rfl rfl ?_
   refine dr_no rfl rfl (lr _) rfl rfl ?_
   refine dr_no rfl rfl (lr _) rfl rfl ?_
   refine dr_no rfl rfl (lr _) rfl rfl ?_
   refine dr_ev rfl (ev_pickT (v := .raw _) (lr _) (lr _)) ?_
   refine dr_end (sq_nil ?_)
   refine aw_true (lr _) ?_
   refine aw_seq (aw_region ?_)
   refine asr (lr _) rfl ?_
   refine sq_nil (aw_ret ?_)
   exact retQ_pure (v := .raw _) rfl rfl (Less.eq (by rw [scOK_bad (i := k) (by omega) (by simp [scBad, *])]))
  ·
   have g2' := g2
   try simp only [qq] at g2'
   refine dr_yes rfl rfl (less_b g2) rfl (ev_mv (v := .raw _) (lr _)) ?_
   refine dr_yes rfl rfl (less_b g2) rfl (ev_gtr (lr _) (lr _)) ?_
   refine dr_yes rfl rfl (less_b g2) rfl (ev_mv (v := .raw _) (lr _)) ?_
   refine dr_split 25 (lr _) (fun g3 => ?_) (fun g3 => ?_)
   ·
    have g3' := g3
    try simp only [qq] at g3'
    have g3n : 0 < k := by omega
    refine dr_yes rfl rfl (less_b g3) rfl (ev_fieldAddr fo84_0 (lr _)) ?_
    refine dr_yes rfl rfl (less_b g3) rfl (ev_load (lr _) rfl ty3 rfl) ?_
    refine dr_yes rfl rfl (less_b g3) rfl (ev_fieldAddr fo27_3 (lr _)) ?_
    refine dr_yes rfl rfl (less_b g3) rfl (ev_load (lr _) rfl ty25 rfl) ?_
    refine dr_yes rfl rfl (less_b g3) rfl (ev_mv (v := .raw _) (lr _)) ?_
    refine dr_yes rfl rfl (less_b g3) rfl (ev_sub (lr _) (lr _) (wr (by omega) (by omega))) ?_
    refine dr_yes rfl rfl (less_b g3) rfl (ev_index_map sl25 (lr _) (lr _) (show ((k : Int) - 1) = ((k - 1 : Nat) : Int) by omega) (by omega)) ?_
    refine dr_yes rfl rfl (less_b g3) rfl (ev_fieldAddr_i fo84_0 (lr _)) ?_
    refine dr_yes rfl rfl (less_b g3) rfl (ev_load_i (lr _) ty3 rfl) ?_
    refine dr_yes rfl rfl (less_b g3) rfl (ev_lss (lr _) (lr _)) ?_
    refine dr_yes rfl rfl (less_b g2) rfl (ev_pickT (v := .raw _) (less_b g3) (lr _)) ?_
    refine dr_ev rfl (ev_pickF (v := .raw _) (less_b g2) (lr _)) ?_
    refine dr_ev rfl (ev_mv (v := .raw _) (lr _)) ?_
    refine dr_split 38 (lr _) (fun g4 => ?_) (fun g4 => ?_)
    ·
     have g4' := g4
     try simp only [qq] at g4'
     refine dr_no rfl rfl (less_b g4) rfl rfl ?_
     refine dr_no rfl rfl (less_b g4) rfl rfl ?_
     refine dr_no rfl rfl (less_b g4) rfl rfl ?_
     refine dr_no rfl rfl (less_b g4) rfl rfl ?_
     refine dr_ev rfl (ev_pickT (v := .raw _) (less_b g4) (lr _)) ?_
     refine dr_ev rfl (ev_mv (v := .raw _) (lr _)) ?_
     refine dr_no rfl rfl (lr _) rfl rfl ?_
     refine dr_no rfl rfl (lr _) rfl rfl ?_
     refine dr_no rfl rfl (lr _) rfl rfl ?_
     refine dr_no rfl rfl (lr _) rfl rfl ?_
     refine dr_no rfl rfl (lr _) rfl rfl ?_
     refine dr_no rfl rfl (lr _) rfl rfl ?_
     refine dr_ev rfl (ev_pickT (v := .raw _) (lr _) (lr _)) ?_
     refine dr_ev rfl (ev_mv (v := .raw _) (lr _)) ?_
     refine dr_no rfl rfl (lr _) rfl rfl ?_
     refine dr_no rfl rfl (lr _) rfl rfl ?_
     refine dr_no rfl rfl (lr _) rfl rfl ?_
     refine dr_no rfl rfl (lr _) rfl rfl ?_
     refine dr_no rfl rfl (lr _) rfl rfl ?_
     refine dr_no rfl rfl (lr _) rfl rfl ?_
     refine dr_no rfl rfl (lr _) rfl rfl ?_
     refine dr_no rfl rfl (lr _) rfl rfl ?_
     refine dr_ev rfl (ev_pickT (v := .raw _) (lr _) (lr _)) ?_
     refine dr_ev rfl (ev_mv (v := .raw _) (lr _)) ?_
     refine dr_no rfl rfl (lr _) rfl rfl ?_
     refine dr_no rfl rfl (lr _) rfl rfl ?_
     refine dr_no rfl rfl (lr _) rfl rfl ?_
     refine dr_no rfl rfl (lr _) rfl rfl ?_
     refine dr_ev rfl (ev_pickT (v := .raw _) (lr _) (lr _)) ?_
     refine dr_end (sq_nil ?_)
     refine aw_true (lr _) ?_
     refine aw_seq (aw_region ?_)
     refine asr (lr _) rfl ?_
     refine sq_nil (aw_ret ?_)
     exact retQ_pure (v := .raw _) rfl rfl (Less.eq (by rw [scOK_bad (i := k) (by omega) (by simp [scBad, *])]))
    ·
     have g4' := g4
     try simp only [qq] at g4'
     refine dr_yes rfl rfl (less_b g4) rfl (ev_fieldAddr fo84_1 (lr _)) ?_
     refine dr_yes rfl rfl (less_b g4) rfl (ev_load (lr _) rfl ty3 rfl) ?_
     refine dr_yes rfl rfl (less_b g4) rfl (ev_call en89 (lr _) (in_pure _ _ _) ⟨lr _, lr _, lr _, trivial⟩) ?_
     refine dr_yes rfl rfl (less_b g4) rfl (ev_not (lr _)) ?_
     refine dr_ev rfl (ev_pickF (v := .raw _) (less_b g4) (lr _)) ?_
     refine dr_ev rfl (ev_mv (v := .raw _) (lr _)) ?_
     refine dr_split 44 (lr _) (fun g5 => ?_) (fun g5 => ?_)
     ·
      have g5' := g5
      try simp only [qq] at g5'
      refine dr_no rfl rfl (less_b g5) rfl rfl ?_
      refine dr_no rfl rfl (less_b g5) rfl rfl ?_
      refine dr_no rfl rfl (less_b g5) rfl rfl ?_
      refine dr_no rfl rfl (less_b g5) rfl rfl ?_
      refine dr_no rfl rfl (less_b g5) rfl rfl ?_
      refine dr_no rfl rfl (less_b g5) rfl rfl ?_
      refine dr_ev rfl (ev_pickT (v := .raw _) (less_b g5) (lr _)) ?_
      refine dr_ev rfl (ev_mv (v := .raw _) (lr _)) ?_
      refine dr_no rfl rfl (lr _) rfl rfl ?_
      refine dr_no rfl rfl (lr _) rfl rfl ?_
      refine dr_no rfl rfl (lr _) rfl rfl ?_
      refine dr_no rfl rfl (lr _) rfl rfl ?_
      refine dr_no rfl rfl (lr _) rfl rfl ?_
      refine dr_no rfl rfl (lr _) rfl rfl ?_
      refine dr_no rfl rfl (lr _) rfl rfl ?_
      refine dr_no rfl rfl (lr _) rfl rfl ?_
      refine dr_ev rfl (ev_pickT (v := .raw _) (lr _) (lr _)) ?_
      refine dr_ev rfl (ev_mv (v := .raw _) (lr _)) ?_
      refine dr_no rfl rfl (lr _) rfl rfl ?_
      refine dr_no rfl rfl (lr _) rfl rfl ?_
      refine dr_no rfl rfl (lr _) rfl rfl ?_
      refine dr_no rfl rfl (lr _) rfl rfl ?_
      refine dr_ev rfl (ev_pickT (v := .raw _) (lr _) (lr _)) ?_
      refine dr_end (sq_nil ?_)
      refine aw_true (lr _) ?_
      refine aw_seq (aw_region ?_)
      refine asr (lr _) rfl ?_
      refine sq_nil (aw_ret ?_)
      exact retQ_pure (v := .raw _) rfl rfl (Less.eq (by rw [scOK_bad (i := k) (by omega) (by simp [scBad, *])]))
     ·
      have g5' := g5
      try simp only [qq] at g5'
      refine dr_yes rfl rfl (less_b g5) rfl (ev_fieldAddr fo84_2 (lr _)) ?_
      refine dr_yes rfl rfl (less_b g5) rfl (ev_load (lr _) rfl ty3 rfl) ?_
      refine dr_yes rfl rfl (less_b g5) rfl (ev_fieldAddr fo84_1 (lr _)) ?_
      refine dr_yes rfl rfl (less_b g5) rfl (ev_load (lr _) rfl ty3 rfl) ?_
      refine dr_yes rfl rfl (less_b g5) rfl (ev_call en89 (lr _) (in_pure _ _ _) ⟨lr _, lr _, lr _, trivial⟩) ?_
      refine dr_yes rfl rfl (less_b g5) rfl (ev_not (lr _)) ?_
      refine dr_ev rfl (ev_pickF (v := .raw _) (less_b g5) (lr _)) ?_
      refine dr_ev rfl (ev_mv (v := .raw _) (lr _)) ?_
      refine dr_split 52 (lr _) (fun g6 => ?_) (fun g6 => ?_)
      ·
       have g6' := g6
       try simp only [qq] at g6'
       refine dr_no rfl rfl (less_b g6) rfl rfl ?_
       refine dr_no rfl rfl (less_b g6) rfl rfl ?_
       refine dr_no rfl rfl (less_b g6) rfl rfl ?_
       refine dr_no rfl rfl (less_b g6) rfl rfl ?_
       refine dr_no rfl rfl (less_b g6) rfl rfl ?_
       refine dr_no rfl rfl (less_b g6) rfl rfl ?_
       refine dr_no rfl rfl (less_b g6) rfl rfl ?_
       refine dr_no rfl rfl (less_b g6) rfl rfl ?_
       refine dr_ev rfl (ev_pickT (v := .raw _) (less_b g6) (lr _)) ?_
       refine dr_ev rfl (ev_mv (v := .raw _) (lr _)) ?_
       refine dr_no rfl rfl (lr _) rfl rfl ?_
       refine dr_no rfl rfl (lr _) rfl rfl ?_
       refine dr_no rfl rfl (lr _) rfl rfl ?_
       refine dr_no rfl rfl (lr _) rfl rfl ?_
       refine dr_ev rfl (ev_pickT (v := .raw _) (lr _) (lr _)) ?_
       refine dr_end (sq_nil ?_)
       refine aw_true (lr _) ?_
       refine aw_seq (aw_region ?_)
       refine asr (lr _) rfl ?_
       refine sq_nil (aw_ret ?_)
       exact retQ_pure (v := .raw _) rfl rfl (Less.eq (by rw [scOK_bad (i := k) (by omega) (by simp [scBad, *])]))
      ·
       have g6' := g6
       try simp only [qq] at g6'
       refine dr_yes rfl rfl (less_b g6) rfl (ev_fieldAddr fo84_4 (lr _)) ?_
       refine dr_yes rfl rfl (less_b g6) rfl (ev_load (lr _) rfl ty3 rfl) ?_
       refine dr_yes rfl rfl (less_b g6) rfl (ev_fieldAddr fo27_3 (lr _)) ?_
       refine dr_yes rfl rfl (less_b g6) rfl (ev_load (lr _) rfl ty25 rfl) ?_
       refine dr_yes rfl rfl (less_b g6) rfl (ev_len_map sl25 (lr _)) ?_
       refine dr_yes rfl rfl (less_b g6) rfl (ev_sub (lr _) (lr _) (wr (by omega) (by omega))) ?_
       refine dr_yes rfl rfl (less_b g6) rfl (ev_call en89 (lr _) (in_pure _ _ _) ⟨lr _, lr _, lr _, trivial⟩) ?_
       refine dr_yes rfl rfl (less_b g6) rfl (ev_not (lr _)) ?_
       refine dr_ev rfl (ev_pickF (v := .raw _) (less_b g6) (lr _)) ?_
       refine dr_ev rfl (ev_mv (v := .raw _) (lr _)) ?_
       refine dr_split 62 (lr _) (fun g7 => ?_) (fun g7 => ?_)
       ·
        have g7' := g7
        try simp only [qq] at g7'
        refine dr_no rfl rfl (less_b g7) rfl rfl ?_
        refine dr_no rfl rfl (less_b g7) rfl rfl ?_
        refine dr_no rfl rfl (less_b g7) rfl rfl ?_
        refine dr_no rfl rfl (less_b g7) rfl rfl ?_
        refine dr_ev rfl (ev_pickT (v := .raw _) (less_b g7) (lr _)) ?_
        refine dr_end (sq_nil ?_)
        refine aw_true (lr _) ?_
        refine aw_seq (aw_region ?_)
        refine asr (lr _) rfl ?_
        refine sq_nil (aw_ret ?_)
        exact retQ_pure (v := .raw _) rfl rfl (Less.eq (by rw [scOK_bad (i := k) (by omega) (by simp [scBad, *])]))
       ·
        have g7' := g7
        try simp only [qq] at g7'
        refine dr_yes rfl rfl (less_b g7) rfl (ev_fieldAddr fo84_4 (lr _)) ?_
        refine dr_yes rfl rfl (less_b g7) rfl (ev_load (lr _) rfl ty3 rfl) ?_
        refine dr_yes rfl rfl (less_b g7) rfl (ev_mv (v := .raw _) (lr _)) ?_
        refine dr_yes rfl rfl (less_b g7) rfl (ev_eql (lr _) (lr _)) ?_
        refine dr_ev rfl (ev_pickF (v := .raw _) (less_b g7) (lr _)) ?_
        refine dr_end (sq_nil ?_)
        refine aw_cond (lr _) (fun c8 => ?_) (fun c8 => ?_)
        ·
         have c8' := c8
         try simp only [qq] at c8'
         refine aw_seq (aw_region ?_)
         refine asr (lr _) rfl ?_
         refine sq_nil (aw_ret ?_)
         exact retQ_pure (v := .raw _) rfl rfl (Less.eq (by rw [scOK_bad (i := k) (by omega) (by simp [scBad, *])]))
        ·
         have c8' := c8
         try simp only [qq] at c8'
         refine aw_skip (aw_seq (aw_region ?_))
         refine sq_ev rfl (ev_fieldAddr fo84_3 (lr _)) ?_
         refine sq_ev rfl (ev_load (lr _) rfl ty4 rfl) ?_
         refine sq_nil ?_
         refine aw_cond (lr _) (fun c9 => ?_) (fun c9 => ?_)
         ·
          have c9' := c9
          try simp only [qq] at c9'
          refine aw_region ?_
          refine mvr (lr _) rfl ?_
          refine sq_ev rfl (ev_add (lr _) (lr _) (wr (by omega) (by omega))) ?_
          refine asr (lr _) rfl ?_
          refine sq_nil (aw_region ?_)
          refine mvr (lr _) rfl ?_
          refine sq_ev rfl (ev_add (lr _) (lr _) (wr (by omega) (by omega))) ?_
          refine asr (lr _) rfl ?_
          refine sq_nil ?_
          have hstep := loosies_take (l := p.scenes) (k := k) (by omega)
          have hgood : scBad p.scenes k (by omega) = false := by simp [scBad, *]
          exact ⟨⟨k + 1, by omega, fun i h hi => (by by_cases e : i = k; (subst e; exact hgood); exact hok i h (by omega))⟩, by simp only; omega, Sub.fin 1 ⟨less_int (by rw [hstep]; simp [*]), lr _, lr _, trivial⟩ rfl (by simp [slotsIn, objsIn, sget, keepS, AObj.inB, AV.inB, AV.inL, AV.inE, inE_map]) (by simp [slotsIn, objsIn, sget, keepS, AObj.inB, AV.inB, AV.inL, AV.inE, inE_map]) (by simp [he0])⟩
         ·
          have c9' := c9
          try simp only [qq] at c9'
          refine aw_skip (aw_region ?_)
          refine mvr (lr _) rfl ?_
          refine sq_ev rfl (ev_add (lr _) (lr _) (wr (by omega) (by omega))) ?_
          refine asr (lr _) rfl ?_
          refine sq_nil ?_
          have hstep := loosies_take (l := p.scenes) (k := k) (by omega)
          have hgood : scBad p.scenes k (by omega) = false := by simp [scBad, *]
          exact ⟨⟨k + 1, by omega, fun i h hi => (by by_cases e : i = k; (subst e; exact hgood); exact hok i h (by omega))⟩, by simp only; omega, Sub.fin 1 ⟨less_int (by rw [hstep]; simp [*]), lr _, lr _, trivial⟩ rfl (by simp [slotsIn, objsIn, sget, keepS, AObj.inB, AV.inB, AV.inL, AV.inE, inE_map]) (by simp [slotsIn, objsIn, sget, keepS, AObj.inB, AV.inB, AV.inL, AV.inE, inE_map]) (by simp [he0])⟩
   ·
    have g3' := g3
    try simp only [qq] at g3'
    have g3n : ¬ (0 < k) := by omega
    refine dr_no rfl rfl (less_b g3) rfl rfl ?_
    refine dr_no rfl rfl (less_b g3) rfl rfl ?_
    refine dr_no rfl rfl (less_b g3) rfl rfl ?_
    refine dr_no rfl rfl (less_b g3) rfl rfl ?_
    refine dr_no rfl rfl (less_b g3) rfl rfl ?_
    refine dr_no rfl rfl (less_b g3) rfl rfl ?_
    refine dr_no rfl rfl (less_b g3) rfl rfl ?_
    refine dr_no rfl rfl (less_b g3) rfl rfl ?_
    refine dr_no rfl rfl (less_b g3) rfl rfl ?_
    refine dr_no rfl rfl (less_b g3) rfl rfl ?_
    refine dr_yes rfl rfl (less_b g2) rfl (ev_pickF (v := .raw _) (less_b g3) (lr _)) ?_
    refine dr_ev rfl (ev_pickF (v := .raw _) (less_b g2) (lr _)) ?_
    refine dr_ev rfl (ev_mv (v := .raw _) (lr _)) ?_
    refine dr_yes rfl rfl (lr _) rfl (ev_fieldAddr fo84_1 (lr _)) ?_
    refine dr_yes rfl rfl (lr _) rfl (ev_load (lr _) rfl ty3 rfl) ?_
    refine dr_yes rfl rfl (lr _) rfl (ev_call en89 (lr _) (in_pure _ _ _) ⟨lr _, lr _, lr _, trivial⟩) ?_
    refine dr_yes rfl rfl (lr _) rfl (ev_not (lr _)) ?_
    refine dr_ev rfl (ev_pickF (v := .raw _) (lr _) (lr _)) ?_
    refine dr_ev rfl (ev_mv (v := .raw _) (lr _)) ?_
    refine dr_split 44 (lr _) (fun g10 => ?_) (fun g10 => ?_)
    ·
     have g10' := g10
     try simp only [qq] at g10'
     refine dr_no rfl rfl (less_b g10) rfl rfl ?_
     refine dr_no rfl rfl (less_b g10) rfl rfl ?_
     refine dr_no rfl rfl (less_b g10) rfl rfl ?_
     refine dr_no rfl rfl (less_b g10) rfl rfl ?_
     refine dr_no rfl rfl (less_b g10) rfl rfl ?_
     refine dr_no rfl rfl (less_b g10) rfl rfl ?_
     refine dr_ev rfl (ev_pickT (v := .raw _) (less_b g10) (lr _)) ?_
     refine dr_ev rfl (ev_mv (v := .raw _) (lr _)) ?_
     refine dr_no rfl rfl (lr _) rfl rfl ?_
     refine dr_no rfl rfl (lr _) rfl rfl ?_
     refine dr_no rfl rfl (lr _) rfl rfl ?_
     refine dr_no rfl rfl (lr _) rfl rfl ?_
     refine dr_no rfl rfl (lr _) rfl rfl ?_
     refine dr_no rfl rfl (lr _) rfl rfl ?_
     refine dr_no rfl rfl (lr _) rfl rfl ?_
     refine dr_no rfl rfl (lr _) rfl rfl ?_
     refine dr_ev rfl (ev_pickT (v := .raw _) (lr _) (lr _)) ?_
     refine dr_ev rfl (ev_mv (v := .raw _) (lr _)) ?_
     refine dr_no rfl rfl (lr _) rfl rfl ?_
     refine dr_no rfl rfl (lr _) rfl rfl ?_
     refine dr_no rfl rfl (lr _) rfl rfl ?_
     refine dr_no rfl rfl (lr _) rfl rfl ?_
     refine dr_ev rfl (ev_pickT (v := .raw _) (lr _) (lr _)) ?_
     refine dr_end (sq_nil ?_)
     refine aw_true (lr _) ?_
     refine aw_seq (aw_region ?_)
     refine asr (lr _) rfl ?_
     refine sq_nil (aw_ret ?_)
     exact retQ_pure (v := .raw _) rfl rfl (Less.eq (by rw [scOK_bad (i := k) (by omega) (by simp [scBad, *])]))
    ·
     have g10' := g10
     try simp only [qq] at g10'
     refine dr_yes rfl rfl (less_b g10) rfl (ev_fieldAddr fo84_2 (lr _)) ?_
     refine dr_yes rfl rfl (less_b g10) rfl (ev_load (lr _) rfl ty3 rfl) ?_
     refine dr_yes rfl rfl (less_b g10) rfl (ev_fieldAddr fo84_1 (lr _)) ?_
     refine dr_yes rfl rfl (less_b g10) rfl (ev_load (lr _) rfl ty3 rfl) ?_
     refine dr_yes rfl rfl (less_b g10) rfl (ev_call en89 (lr _) (in_pure _ _ _) ⟨lr _, lr _, lr _, trivial⟩) ?_
     refine dr_yes rfl rfl (less_b g10) rfl (ev_not (lr _)) ?_
     refine dr_ev rfl (ev_pickF (v := .raw _) (less_b g10) (lr _)) ?_
     refine dr_ev rfl (ev_mv (v := .raw _) (lr _)) ?_
     refine dr_split 52 (lr _) (fun g11 => ?_) (fun g11 => ?_)
     ·
      have g11' := g11
      try simp only [qq] at g11'
      refine dr_no rfl rfl (less_b g11) rfl rfl ?_
      refine dr_no rfl rfl (less_b g11) rfl rfl ?_
      refine dr_no rfl rfl (less_b g11) rfl rfl ?_
      refine dr_no rfl rfl (less_b g11) rfl rfl ?_
      refine dr_no rfl rfl (less_b g11) rfl rfl ?_
      refine dr_no rfl rfl (less_b g11) rfl rfl ?_
      refine dr_no rfl rfl (less_b g11) rfl rfl ?_
      refine dr_no rfl rfl (less_b g11) rfl rfl ?_
      refine dr_ev rfl (ev_pickT (v := .raw _) (less_b g11) (lr _)) ?_
      refine dr_ev rfl (ev_mv (v := .raw _) (lr _)) ?_
      refine dr_no rfl rfl (lr _) rfl rfl ?_
      refine dr_no rfl rfl (lr _) rfl rfl ?_
      refine dr_no rfl rfl (lr _) rfl rfl ?_
      refine dr_no rfl rfl (lr _) rfl rfl ?_
      refine dr_ev rfl (ev_pickT (v := .raw _) (lr _) (lr _)) ?_
      refine dr_end (sq_nil ?_)
      refine aw_true (lr _) ?_
      refine aw_seq (aw_region ?_)
      refine asr (lr _) rfl ?_
      refine sq_nil (aw_ret ?_)
      exact retQ_pure (v := .raw _) rfl rfl (Less.eq (by rw [scOK_bad (i := k) (by omega) (by simp [scBad, *])]))
     ·
      have g11' := g11
      try simp only [qq] at g11'
      refine dr_yes rfl rfl (less_b g11) rfl (ev_fieldAddr fo84_4 (lr _)) ?_
      refine dr_yes rfl rfl (less_b g11) rfl (ev_load (lr _) rfl ty3 rfl) ?_
      refine dr_yes rfl rfl (less_b g11) rfl (ev_fieldAddr fo27_3 (lr _)) ?_
      refine dr_yes rfl rfl (less_b g11) rfl (ev_load (lr _) rfl ty25 rfl) ?_
      refine dr_yes rfl rfl (less_b g11) rfl (ev_len_map sl25 (lr _)) ?_
      refine dr_yes rfl rfl (less_b g11) rfl (ev_sub (lr _) (lr _) (wr (by omega) (by omega))) ?_
      refine dr_yes rfl rfl (less_b g11) rfl (ev_call en89 (lr _) (in_pure _ _ _) ⟨lr _, lr _, lr _, trivial⟩) ?_
      refine dr_yes rfl rfl (less_b g11) rfl (ev_not (lr _)) ?_
      refine dr_ev rfl (ev_pickF (v := .raw _) (less_b g11) (lr _)) ?_
      refine dr_ev rfl (ev_mv (v := .raw _) (lr _)) ?_
      refine dr_split 62 (lr _) (fun g12 => ?_) (fun g12 => ?_)
      ·
       have g12' := g12
       try simp only [qq] at g12'
       refine dr_no rfl rfl (less_b g12) rfl rfl ?_
       refine dr_no rfl rfl (less_b g12) rfl rfl ?_
       refine dr_no rfl rfl (less_b g12) rfl rfl ?_
       refine dr_no rfl rfl (less_b g12) rfl rfl ?_
       refine dr_ev rfl (ev_pickT (v := .raw _) (less_b g12) (lr _)) ?_
       refine dr_end (sq_nil ?_)
       refine aw_true (lr _) ?_
       refine aw_seq (aw_region ?_)
       refine asr (lr _) rfl ?_
       refine sq_nil (aw_ret ?_)
       exact retQ_pure (v := .raw _) rfl rfl (Less.eq (by rw [scOK_bad (i := k) (by omega) (by simp [scBad, *])]))
      ·
       have g12' := g12
       try simp only [qq] at g12'
       refine dr_yes rfl rfl (less_b g12) rfl (ev_fieldAddr fo84_4 (lr _)) ?_
       refine dr_yes rfl rfl (less_b g12) rfl (ev_load (lr _) rfl ty3 rfl) ?_
       refine dr_yes rfl rfl (less_b g12) rfl (ev_mv (v := .raw _) (lr _)) ?_
       refine dr_yes rfl rfl (less_b g12) rfl (ev_eql (lr _) (lr _)) ?_
       refine dr_ev rfl (ev_pickF (v := .raw _) (less_b g12) (lr _)) ?_
       refine dr_end (sq_nil ?_)
       refine aw_cond (lr _) (fun c13 => ?_) (fun c13 => ?_)
       ·
        have c13' := c13
        try simp only [qq] at c13'
        refine aw_seq (aw_region ?_)
        refine asr (lr _) rfl ?_
        refine sq_nil (aw_ret ?_)
        exact retQ_pure (v := .raw _) rfl rfl (Less.eq (by rw [scOK_bad (i := k) (by omega) (by simp [scBad, *])]))
       ·
        have c13' := c13
        try simp only [qq] at c13'
        refine aw_skip (aw_seq (aw_region ?_))
        refine sq_ev rfl (ev_fieldAddr fo84_3 (lr _)) ?_
        refine sq_ev rfl (ev_load (lr _) rfl ty4 rfl) ?_
        refine sq_nil ?_
        refine aw_cond (lr _) (fun c14 => ?_) (fun c14 => ?_)
        ·
         have c14' := c14
         try simp only [qq] at c14'
         refine aw_region ?_
         refine mvr (lr _) rfl ?_
         refine sq_ev rfl (ev_add (lr _) (lr _) (wr (by omega) (by omega))) ?_
         refine asr (lr _) rfl ?_
         refine sq_nil (aw_region ?_)
         refine mvr (lr _) rfl ?_
         refine sq_ev rfl (ev_add (lr _) (lr _) (wr (by omega) (by omega))) ?_
         refine asr (lr _) rfl ?_
         refine sq_nil ?_
         have hstep := loosies_take (l := p.scenes) (k := k) (by omega)
         have hgood : scBad p.scenes k (by omega) = false := by simp [scBad, *]
         exact ⟨⟨k + 1, by omega, fun i h hi => (by by_cases e : i = k; (subst e; exact hgood); exact hok i h (by omega))⟩, by simp only; omega, Sub.fin 1 ⟨less_int (by rw [hstep]; simp [*]), lr _, lr _, trivial⟩ rfl (by simp [slotsIn, objsIn, sget, keepS, AObj.inB, AV.inB, AV.inL, AV.inE, inE_map]) (by simp [slotsIn, objsIn, sget, keepS, AObj.inB, AV.inB, AV.inL, AV.inE, inE_map]) (by simp [he0])⟩
        ·
         have c14' := c14
         try simp only [qq] at c14'
         refine aw_skip (aw_region ?_)
         refine mvr (lr _) rfl ?_
         refine sq_ev rfl (ev_add (lr _) (lr _) (wr (by omega) (by omega))) ?_
         refine asr (lr _) rfl ?_
         refine sq_nil ?_
         have hstep := loosies_take (l := p.scenes) (k := k) (by omega)
         have hgood : scBad p.scenes k (by omega) = false := by simp [scBad, *]
         exact ⟨⟨k + 1, by omega, fun i h hi => (by by_cases e : i = k; (subst e; exact hgood); exact hok i h (by omega))⟩, by simp only; omega, Sub.fin 1 ⟨less_int (by rw [hstep]; simp [*]), lr _, lr _, trivial⟩ rfl (by simp [slotsIn, objsIn, sget, keepS, AObj.inB, AV.inB, AV.inL, AV.inE, inE_map]) (by simp [slotsIn, objsIn, sget, keepS, AObj.inB, AV.inB, AV.inL, AV.inE, inE_map]) (by simp [he0])⟩
 ·
  have c1' := c1
  try simp only [qq] at c1'
  refine aw_exit (aw_seq (aw_region ?_))
  refine mvr (lr _) rfl ?_
  refine sq_ev rfl (ev_leq (lr _) (lr _)) ?_
  refine asr (lr _) rfl ?_
  refine sq_nil (aw_ret ?_)
  exact retQ_pure (v := .raw _) rfl rfl (Less.eq (by rw [scOK_end hk c1' hok]))
set_option maxHeartbeats 1000000 in
theorem plan_pure (p : Pl) (hl : p.scenes.length ≤ 1000000) : APure Tryz.prog 24 [plan p] (B (PlOK p)) := by
 refine apure_of (rs := [.tmp 2]) Tryz.func24 rfl rfl (Nat.le_of_ble_eq_true rfl) (by simp [AV.pureL, AV.pureB, AV.pureE, pureE_map]) (rfl) fun e0 he0 => ?_
 refine aw_seq (aw_region ?_)
 refine sq_box rfl (lr _) rfl ?_
 refine asr (lr _) rfl ?_
 refine sq_nil (aw_seq (aw_region ?_))
 refine sq_ev rfl (ev_fieldAddr fo27_0 (lr _)) ?_
 refine sq_ev rfl (ev_load (lr _) rfl ty3 rfl) ?_
 refine sq_ev rfl (ev_call en89 (lr _) (in_pure _ _ _) ⟨lr _, lr _, lr _, trivial⟩) ?_
 refine mvr (lr _) rfl ?_
 refine sq_split 6 (lr _) (fun g1 => ?_) (fun g1 => ?_)
 ·
  have g1' := g1
  try simp only [qq] at g1'
  refine sq_yes rfl rfl (less_b g1) rfl (ev_fieldAddr fo27_1 (lr _)) ?_
  refine sq_yes rfl rfl (less_b g1) rfl (ev_index_box ar24 (lr _) (lr _) rfl (by decide)) ?_
  refine sq_yes rfl rfl (less_b g1) rfl (ev_load_agg (lr _) rfl ty23 rfl) ?_
  refine sq_yes rfl rfl (less_b g1) rfl (ev_call en90 (lr _) (window_pure _ _) ⟨lr _, trivial⟩) ?_
  refine sq_ev rfl (ev_pickT (v := .raw _) (less_b g1) (lr _)) ?_
  refine mvr (lr _) rfl ?_
  refine sq_split 12 (lr _) (fun g2 => ?_) (fun g2 => ?_)
  ·
   have g2' := g2
   try simp only [qq] at g2'
   refine sq_yes rfl rfl (less_b g2) rfl (ev_fieldAddr fo27_1 (lr _)) ?_
   refine sq_yes rfl rfl (less_b g2) rfl (ev_index_box ar24 (lr _) (lr _) rfl (by decide)) ?_
   refine sq_yes rfl rfl (less_b g2) rfl (ev_load_agg (lr _) rfl ty23 rfl) ?_
   refine sq_yes rfl rfl (less_b g2) rfl (ev_call en90 (lr _) (window_pure _ _) ⟨lr _, trivial⟩) ?_
   refine sq_ev rfl (ev_pickT (v := .raw _) (less_b g2) (lr _)) ?_
   refine mvr (lr _) rfl ?_
   refine sq_split 18 (lr _) (fun g3 => ?_) (fun g3 => ?_)
   ·
    have g3' := g3
    try simp only [qq] at g3'
    refine sq_yes rfl rfl (less_b g3) rfl (ev_fieldAddr fo27_2 (lr _)) ?_
    refine sq_yes rfl rfl (less_b g3) rfl (ev_load_agg (lr _) rfl ty23 rfl) ?_
    refine sq_yes rfl rfl (less_b g3) rfl (ev_call en90 (lr _) (window_pure _ _) ⟨lr _, trivial⟩) ?_
    refine sq_ev rfl (ev_pickT (v := .raw _) (less_b g3) (lr _)) ?_
    refine mvr (lr _) rfl ?_
    refine sq_split 23 (lr _) (fun g4 => ?_) (fun g4 => ?_)
    ·
     have g4' := g4
     try simp only [qq] at g4'
     refine sq_yes rfl rfl (less_b g4) rfl (ev_fieldAddr fo27_3 (lr _)) ?_
     refine sq_yes rfl rfl (less_b g4) rfl (ev_load (lr _) rfl ty25 rfl) ?_
     refine sq_yes rfl rfl (less_b g4) rfl (ev_len_map sl25 (lr _)) ?_
     refine sq_yes rfl rfl (less_b g4) rfl (ev_call en89 (lr _) (in_pure _ _ _) ⟨lr _, lr _, lr _, trivial⟩) ?_
     refine sq_ev rfl (ev_pickT (v := .raw _) (less_b g4) (lr _)) ?_
     refine mvr (lr _) rfl ?_
     refine sq_split 29 (lr _) (fun g5 => ?_) (fun g5 => ?_)
     ·
      have g5' := g5
      try simp only [qq] at g5'
      refine sq_yes rfl rfl (less_b g5) rfl (ev_load_agg (lr _) rfl ty27 rfl) ?_
      refine sq_yes rfl rfl (less_b g5) rfl (ev_call en91 (lr _) (scenes_pure _ hl) ⟨lr _, trivial⟩) ?_
      refine sq_ev rfl (ev_pickT (v := .raw _) (less_b g5) (lr _)) ?_
      refine asr (lr _) rfl ?_
      refine sq_nil (aw_ret ?_)
      exact retQ_pure (v := .raw _) rfl rfl (Less.eq (by simp [PlOK, *]))
     ·
      have g5' := g5
      try simp only [qq] at g5'
      refine sq_no rfl rfl (less_b g5) rfl rfl ?_
      refine sq_no rfl rfl (less_b g5) rfl rfl ?_
      refine sq_ev rfl (ev_pickF (v := .raw _) (less_b g5) (lr _)) ?_
      refine asr (lr _) rfl ?_
      refine sq_nil (aw_ret ?_)
      exact retQ_pure (v := .raw _) rfl rfl (Less.eq (by simp [PlOK, *]))
    ·
     have g4' := g4
     try simp only [qq] at g4'
     refine sq_no rfl rfl (less_b g4) rfl rfl ?_
     refine sq_no rfl rfl (less_b g4) rfl rfl ?_
     refine sq_no rfl rfl (less_b g4) rfl rfl ?_
     refine sq_no rfl rfl (less_b g4) rfl rfl ?_
     refine sq_ev rfl (ev_pickF (v := .raw _) (less_b g4) (lr _)) ?_
     refine mvr (lr _) rfl ?_
     refine sq_no rfl rfl (lr _) rfl rfl ?_
     refine sq_no rfl rfl (lr _) rfl rfl ?_
     refine pf rfl (lr _) (lr _) ?_
     refine asr (lr _) rfl ?_
     refine sq_nil (aw_ret ?_)
     exact retQ_pure (v := .raw _) rfl rfl (Less.eq (by simp [PlOK, *]))
   ·
    have g3' := g3
    try simp only [qq] at g3'
    refine sq_no rfl rfl (less_b g3) rfl rfl ?_
    refine sq_no rfl rfl (less_b g3) rfl rfl ?_
    refine sq_no rfl rfl (less_b g3) rfl rfl ?_
    refine sq_ev rfl (ev_pickF (v := .raw _) (less_b g3) (lr _)) ?_
    refine mvr (lr _) rfl ?_
    refine sq_no rfl rfl (lr _) rfl rfl ?_
    refine sq_no rfl rfl (lr _) rfl rfl ?_
    refine sq_no rfl rfl (lr _) rfl rfl ?_
    refine sq_no rfl rfl (lr _) rfl rfl ?_
    refine pf rfl (lr _) (lr _) ?_
    refine mvr (lr _) rfl ?_
    refine sq_no rfl rfl (lr _) rfl rfl ?_
    refine sq_no rfl rfl (lr _) rfl rfl ?_
    refine pf rfl (lr _) (lr _) ?_
    refine asr (lr _) rfl ?_
    refine sq_nil (aw_ret ?_)
    exact retQ_pure (v := .raw _) rfl rfl (Less.eq (by simp [PlOK, *]))
  ·
   have g2' := g2
   try simp only [qq] at g2'
   refine sq_no rfl rfl (less_b g2) rfl rfl ?_
   refine sq_no rfl rfl (less_b g2) rfl rfl ?_
   refine sq_no rfl rfl (less_b g2) rfl rfl ?_
   refine sq_no rfl rfl (less_b g2) rfl rfl ?_
   refine sq_ev rfl (ev_pickF (v := .raw _) (less_b g2) (lr _)) ?_
   refine mvr (lr _) rfl ?_
   refine sq_no rfl rfl (lr _) rfl rfl ?_
   refine sq_no rfl rfl (lr _) rfl rfl ?_
   refine sq_no rfl rfl (lr _) rfl rfl ?_
   refine pf rfl (lr _) (lr _) ?_
   refine mvr (lr _) rfl ?_
   refine sq_no rfl rfl (lr _) rfl rfl ?_
   refine sq_no rfl rfl (lr _) rfl rfl ?_
   refine sq_no rfl rfl (lr _) rfl rfl ?_
   refine sq_no rfl rfl (lr _) rfl rfl ?_
   refine pf rfl (lr _) (lr _) ?_
   refine mvr (lr _) rfl ?_
   refine sq_no rfl rfl (lr _) rfl rfl ?_
   refine sq_no rfl rfl (lr _) rfl rfl ?_
   refine pf rfl (lr _) (lr _) ?_
   refine asr (lr _) rfl ?_
   refine sq_nil (aw_ret ?_)
   exact retQ_pure (v := .raw _) rfl rfl (Less.eq (by simp [PlOK, *]))
 ·
  have g1' := g1
  try simp only [qq] at g1'
  refine sq_no rfl rfl (less_b g1) rfl rfl ?_
  refine sq_no rfl rfl (less_b g1) rfl rfl ?_
  refine sq_no rfl rfl (less_b g1) rfl rfl ?_
  refine sq_no rfl rfl (less_b g1) rfl rfl ?_
  refine sq_ev rfl (ev_pickF (v := .raw _) (less_b g1) (lr _)) ?_
  refine mvr (lr _) rfl ?_
  refine sq_no rfl rfl (lr _) rfl rfl ?_
  refine sq_no rfl rfl (lr _) rfl rfl ?_
  refine sq_no rfl rfl (lr _) rfl rfl ?_
  refine sq_no rfl rfl (lr _) rfl rfl ?_
  refine pf rfl (lr _) (lr _) ?_
  refine mvr (lr _) rfl ?_
  refine sq_no rfl rfl (lr _) rfl rfl ?_
  refine sq_no rfl rfl (lr _) rfl rfl ?_
  refine sq_no rfl rfl (lr _) rfl rfl ?_
  refine pf rfl (lr _) (lr _) ?_
  refine mvr (lr _) rfl ?_
  refine sq_no rfl rfl (lr _) rfl rfl ?_
  refine sq_no rfl rfl (lr _) rfl rfl ?_
  refine sq_no rfl rfl (lr _) rfl rfl ?_
  refine sq_no rfl rfl (lr _) rfl rfl ?_
  refine pf rfl (lr _) (lr _) ?_
  refine mvr (lr _) rfl ?_
  refine sq_no rfl rfl (lr _) rfl rfl ?_
  refine sq_no rfl rfl (lr _) rfl rfl ?_
  refine pf rfl (lr _) (lr _) ?_
  refine asr (lr _) rfl ?_
  refine sq_nil (aw_ret ?_)
  exact retQ_pure (v := .raw _) rfl rfl (Less.eq (by simp [PlOK, *]))
end Go.Proofs.YtjghdbdiejaacaaGreatDoor
namespace Go.Proofs.YtjghdbdiejaacaaGreatDoor
open Go Go.Ab Ni
section
variable {r : Option Nat} {H : List AObj} {ρ : Operand → AV} {d : Option Tmp} {t : TypeId} {p : String} {af : Array Edge} {g : Option (Nat × Bool)} {x y : Operand} {yt : TypeId} {a b c e : Int}
theorem ev_span_eql (hx : Less (ρ x) (.agg [I a, I b])) (hy : Less (ρ y) (.agg [I c, I e])) : Ev Tryz.prog r ⟨d, .binOp .eql 23 x y yt, t, p, af, g⟩ H ρ (B (decide (a = c) && decide (b = e))) :=
  ev_eql_agg (by kernel_rfl) (spanEq a b c e) (Less.trans hx (less_agg_raw (vs := [.int .i64 a, .int .i64 b]) rfl)) (Less.trans hy (less_agg_raw (vs := [.int .i64 c, .int .i64 e]) rfl))
end
end Go.Proofs.YtjghdbdiejaacaaGreatDoor
namespace Go.Proofs.YtjghdbdiejaacaaGreatDoor
open Go Go.Ab Ni
theorem en21 : Ent Tryz.prog 21 := Ent.of Tryz.func21 (by kernel_rfl) rfl
theorem en24 : Ent Tryz.prog 24 := Ent.of Tryz.func24 (by kernel_rfl) rfl
end Go.Proofs.YtjghdbdiejaacaaGreatDoor
namespace Go.Proofs.YtjghdbdiejaacaaGreatDoor
open Go Go.Ab Ni
theorem cut_no {c : UInt8} : ∀ {l : List UInt8}, c ∉ l → cut c l = [l]
  | [], _ => rfl
  | b :: l, h => by
    rw [cut, if_neg (fun e => h (by simp [e])), cut_no (fun k => h (List.mem_cons_of_mem _ k))]
theorem cut_app {c : UInt8} : ∀ {w r : List UInt8}, c ∉ w → cut c (w ++ c :: r) = w :: cut c r
  | [], r, _ => by simp [cut]
  | b :: w, r, h => by
    rw [List.cons_append, cut, if_neg (fun e => h (by simp [e])), cut_app (fun k => h (List.mem_cons_of_mem _ k))]
theorem cut_out {c : UInt8} : ∀ {ls : List (List UInt8)} {r : List UInt8}, (∀ l ∈ ls, c ∉ l) → cut c ((ls.map fun l => l ++ [c]).flatten ++ r) = ls ++ cut c r
  | [], r, _ => by simp
  | l :: ls, r, h => by
    have e : ((l :: ls).map fun l => l ++ [c]).flatten ++ r = l ++ c :: ((ls.map fun l => l ++ [c]).flatten ++ r) := by simp
    rw [e, cut_app (h l (by simp)), cut_out (fun y hy => h y (List.mem_cons_of_mem _ hy))]; rfl
theorem itoa_fin : ∀ n : Fin 1000, numOf (Lib.itoa (n.val : Int)) = some (n.val : Int) ∧ (Lib.itoa (n.val : Int)).all isD = true ∧ (Lib.itoa (n.val : Int)).length ≤ 3 := by decide +kernel
theorem itoa_three {n : Int} (h : 0 ≤ n ∧ n ≤ 999) : numOf (Lib.itoa n) = some n ∧ (Lib.itoa n).all isD = true ∧ (Lib.itoa n).length ≤ 3 := by
  have := itoa_fin ⟨n.toNat, by omega⟩
  rwa [show ((⟨n.toNat, by omega⟩ : Fin 1000).val : Int) = n from (by simp; omega)] at this
theorem itoa_not {n : Int} (h : 0 ≤ n ∧ n ≤ 999) {c : UInt8} (hc : isD c = false) : c ∉ Lib.itoa n := fun k => by
  have := List.all_eq_true.1 (itoa_three h).2.1 c k
  rw [hc] at this; cases this
theorem numsL_map (l : List Int) : numsL l = ((l.map Lib.itoa).map fun x => 32 :: x).flatten := by unfold numsL; rw [List.map_map]; rfl
/-- a plan whose numbers have three digits at the most -/
structure TdP (p : Pl) : Prop where
  head : ∀ n ∈ headL p, 0 ≤ n ∧ n ≤ 999
  sc : ∀ x ∈ p.scenes, (0 ≤ x.part ∧ x.part ≤ 999) ∧ (0 ≤ x.least ∧ x.least ≤ 999) ∧ (0 ≤ x.most ∧ x.most ≤ 999) ∧ -1 ≤ x.wants ∧ x.wants ≤ 999
  len : p.scenes.length ≤ 1000
theorem td_told {p : Pl} (td : TdP p) {x : Sc} (hx : x ∈ p.scenes) : ∀ n ∈ toldL x, 0 ≤ n ∧ n ≤ 999 := fun n hn => by
  obtain ⟨h1, h2, h3, h4⟩ := td.sc x hx
  unfold toldL at hn
  rcases List.mem_append.1 hn with hn | hn
  · simp only [List.mem_cons, List.not_mem_nil, or_false] at hn; rcases hn with rfl | rfl | rfl <;> assumption
  · split at hn
    · simp only [List.mem_cons, List.not_mem_nil, or_false] at hn; subst hn; omega
    · simp at hn
theorem td_sm {p : Pl} (td : TdP p) : SmP p := ⟨fun n h => by have := td.head n h; omega, fun x hx n hn => by have := td_told td hx n hn; omega, td.len⟩
theorem td_nn {p : Pl} (td : TdP p) : NnP p := ⟨fun n h => (td.head n h).1, fun x hx => by have := td.sc x hx; omega⟩
theorem ok_td {p : Pl} (h : PlOK p = true) : TdP p := by
  unfold PlOK at h
  simp only [Bool.and_eq_true, decide_eq_true_eq, wnd, inn] at h
  obtain ⟨⟨⟨⟨⟨h0, h1⟩, h2⟩, h3⟩, h4⟩, h5, _⟩ := h
  refine ⟨fun n hn => ?_, fun x hx => ?_, by omega⟩
  · rw [headL_eq] at hn
    simp only [List.mem_cons, List.not_mem_nil, or_false] at hn
    rcases hn with rfl | rfl | rfl | rfl | rfl | rfl | rfl <;> omega
  · obtain ⟨i, hi, rfl⟩ := List.getElem_of_mem hx
    have := h5 i hi
    simp only [scBad, inn, Bool.or_eq_false_iff, Bool.not_eq_false', Bool.and_eq_true, decide_eq_true_eq] at this
    omega
def wordsL (x : Sc) : List (List UInt8) := (toldL x).map Lib.itoa ++ (if 0 ≤ x.wants then [] else [[45]])
theorem line_join (p : Pl) (x : Sc) : lineL p (some x) = wordL x ++ ((wordsL x).map fun w => 32 :: w).flatten := by
  unfold lineL wordsL wordL
  simp only [numsL_map, List.map_append, List.flatten_append, List.append_assoc]
  congr 2
  split <;> rfl
theorem words_not {p : Pl} (td : TdP p) {x : Sc} (hx : x ∈ p.scenes) {c : UInt8} (hc : isD c = false) (h45 : c ≠ 45) : ∀ w ∈ wordsL x, c ∉ w := fun w hw => by
  unfold wordsL at hw
  rcases List.mem_append.1 hw with hw | hw
  · obtain ⟨n, hn, rfl⟩ := List.mem_map.1 hw
    exact itoa_not (td_told td hx n hn) hc
  · split at hw
    · cases hw
    · simp only [List.mem_cons, List.not_mem_nil, or_false] at hw; subst hw; simpa using h45
theorem word_not (x : Sc) {c : UInt8} (h1 : c ∉ wBattle) (h2 : c ∉ wScene) : c ∉ wordL x := by unfold wordL; split <;> assumption
theorem linesL_eq (p : Pl) : linesL p = lineL p none :: p.scenes.map fun x => lineL p (some x) := by
  unfold linesL rowsL rowsT; rw [List.take_length, List.map_cons, List.map_map]; rfl
theorem head_join (p : Pl) : lineL p none = wNight ++ (((headL p).map Lib.itoa).map fun w => 32 :: w).flatten := by unfold lineL; rw [numsL_map]
theorem mem_join {c : UInt8} (hc : c ≠ 32) {ws : List (List UInt8)} {w : List UInt8} (h : c ∉ w) (k : ∀ x ∈ ws, c ∉ x) : c ∉ w ++ (ws.map fun x => 32 :: x).flatten := fun hm => by
  rcases List.mem_append.1 hm with hm | hm
  · exact h hm
  · obtain ⟨y, hy, hm⟩ := List.mem_flatten.1 hm
    obtain ⟨x, hx, rfl⟩ := List.mem_map.1 hy
    rcases List.mem_cons.1 hm with hm | hm
    · exact hc hm
    · exact k x hx hm
theorem head_not {p : Pl} (td : TdP p) {c : UInt8} (hc : isD c = false) : ∀ w ∈ (headL p).map Lib.itoa, c ∉ w := fun w hw => by
  obtain ⟨n, hn, rfl⟩ := List.mem_map.1 hw
  exact itoa_not (td.head n hn) hc
theorem lines_not {p : Pl} (td : TdP p) : ∀ l ∈ linesL p, (10 : UInt8) ∉ l := fun l hl => by
  rw [linesL_eq] at hl
  rcases List.mem_cons.1 hl with rfl | hl
  · rw [head_join]; exact mem_join (by decide) (by decide) (head_not td (by decide))
  · obtain ⟨x, hx, rfl⟩ := List.mem_map.1 hl
    rw [line_join]; exact mem_join (by decide) (word_not x (by decide) (by decide)) (words_not td hx (by decide) (by decide))
def endL (c : Int) : List UInt8 := [101, 110, 100, 32] ++ digs3 c
theorem end_not {c : Int} (h : 0 ≤ c ∧ c ≤ 999) : (10 : UInt8) ∉ endL c := by
  have a1 := itoa_not (n := c / 100) (by omega) (c := 10) (by decide)
  have a2 := itoa_not (n := c / 10 % 10) (by omega) (c := 10) (by decide)
  have a3 := itoa_not (n := c % 10) (by omega) (c := 10) (by decide)
  unfold endL digs3
  simp [a1, a2, a3]
theorem seal_cut {ls : List (List UInt8)} (h : ∀ l ∈ ls, (10 : UInt8) ∉ l) : cut 10 (sealL ls) = ls ++ [endL (ctT ls ls.length % 181), []] := by
  have e : sealL ls = (ls.map fun l => l ++ [10]).flatten ++ (endL (ctT ls ls.length % 181) ++ 10 :: []) := by
    unfold sealL outT endL; rw [List.take_length]; simp
  rw [e, cut_out h, cut_app (end_not (by omega))]; rfl
end Go.Proofs.YtjghdbdiejaacaaGreatDoor
namespace Go.Proofs.YtjghdbdiejaacaaGreatDoor
open Go Go.Ab Ni
theorem en118 : Ent Tryz.prog 118 := Ent.of Tryz.func118 (by kernel_rfl) rfl
theorem en50 : Ent Tryz.prog 50 := Ent.of Tryz.func50 (by kernel_rfl) rfl
theorem en53 : Ent Tryz.prog 53 := Ent.of Tryz.func53 (by kernel_rfl) rfl
theorem ty24 : tySz Tryz.prog 24 = some (true, 4) := by kernel_rfl
abbrev scVals (x : Sc) : Array Value := #[.int .i64 x.part, .int .i64 x.least, .int .i64 x.most, .bool x.loose, .int .i64 x.wants]
theorem scEq (a b : Sc) (w : World) : (Op.equalIn 10000 84 (.agg (scVals a)) (.agg (scVals b))).run Tryz.prog w = .ok (decide (a = b)) w := by
  have h3 : Tryz.prog.underlying 3 = some (.int .i64) := Tryz.underlying3
  have h4 : Tryz.prog.underlying 4 = some .bool := Tryz.underlying4
  rw [run_equalIn_struct w 9999 84 _ _ (by rw [fieldsOf_st Tryz.underlying84]; exact Tryz.underlying84) (by kernel_rfl), fieldsOf_st Tryz.underlying84]
  have q0 : ∀ (x : Sc) (w : World), (part 3 (scVals x) 0).run Tryz.prog w = .ok (.int .i64 x.part) w := fun x w => by simp [part, Tryz.isAgg3]
  have q1 : ∀ (x : Sc) (w : World), (part 3 (scVals x) 1).run Tryz.prog w = .ok (.int .i64 x.least) w := fun x w => by simp [part, Tryz.isAgg3]
  have q2 : ∀ (x : Sc) (w : World), (part 3 (scVals x) 2).run Tryz.prog w = .ok (.int .i64 x.most) w := fun x w => by simp [part, Tryz.isAgg3]
  have q3 : ∀ (x : Sc) (w : World), (part 4 (scVals x) 3).run Tryz.prog w = .ok (.bool x.loose) w := fun x w => by simp [part, Tryz.isAgg4]
  have q4 : ∀ (x : Sc) (w : World), (part 3 (scVals x) 4).run Tryz.prog w = .ok (.int .i64 x.wants) w := fun x w => by simp [part, Tryz.isAgg3]
  simp [Op.eqFields, q0, q1, q2, q3, q4, run_equalIn_int _ _ _ _ _ _ _ h3, run_equalIn_bool' _ _ _ _ _ h4]
  obtain ⟨a1, a2, a3, a4, a5⟩ := a
  obtain ⟨b1, b2, b3, b4, b5⟩ := b
  simp only [Sc.mk.injEq]
  by_cases e1 : a1 = b1 <;> by_cases e2 : a2 = b2 <;> by_cases e3 : a3 = b3 <;> by_cases e4 : a4 = b4 <;> by_cases e5 : a5 = b5 <;> simp [e1, e2, e3, e4, e5]
theorem spanEqD (n : Nat) (a b c d : Int) (w : World) : (Op.equalIn (n + 2) 23 (.agg #[.int .i64 a, .int .i64 b]) (.agg #[.int .i64 c, .int .i64 d])).run Tryz.prog w = .ok (decide (a = c) && decide (b = d)) w := by
  have h3 : Tryz.prog.underlying 3 = some (.int .i64) := Tryz.underlying3
  rw [run_equalIn_struct w (n + 1) 23 _ _ (by rw [fieldsOf_st Tryz.underlying23]; exact Tryz.underlying23) (by kernel_rfl), fieldsOf_st Tryz.underlying23]
  have p0 : ∀ (x y : Int) (w : World), (part 3 #[.int .i64 x, .int .i64 y] 0).run Tryz.prog w = .ok (.int .i64 x) w := fun x y w => by
    simp [part, Tryz.isAgg3]
  have p1 : ∀ (x y : Int) (w : World), (part 3 #[.int .i64 x, .int .i64 y] 1).run Tryz.prog w = .ok (.int .i64 y) w := fun x y w => by
    simp [part, Tryz.isAgg3]
  simp [Op.eqFields, p0, p1, run_equalIn_int _ _ _ _ _ _ _ h3]
  by_cases h1 : a = c <;> by_cases h2 : b = d <;> simp [h1, h2]
theorem arrEq (a b c d a' b' c' d' : Int) (w : World) : (Op.equalIn 10000 24 (.agg #[.int .i64 a, .int .i64 b, .int .i64 c, .int .i64 d]) (.agg #[.int .i64 a', .int .i64 b', .int .i64 c', .int .i64 d'])).run Tryz.prog w = .ok (decide (a = a' ∧ b = b' ∧ c = c' ∧ d = d')) w := by
  obtain ⟨i, hi⟩ : ∃ i, Tryz.prog.info? 23 = some i := Option.isSome_iff_exists.1 (by kernel_rfl)
  rw [run_equalIn_array w 9999 _ _ Tryz.underlying24 hi, show Tryz.prog.cellsOf 23 = 2 by kernel_rfl, show List.range 2 = [0, 1] from rfl]
  have p0 : ∀ (x y z u : Int) (w : World), (part 23 #[.int .i64 x, .int .i64 y, .int .i64 z, .int .i64 u] 0).run Tryz.prog w = .ok (.agg #[.int .i64 x, .int .i64 y]) w := fun x y z u w => by
    simp [part, Tryz.isAgg23, Tryz.sizeOf23]
  have p2 : ∀ (x y z u : Int) (w : World), (part 23 #[.int .i64 x, .int .i64 y, .int .i64 z, .int .i64 u] 2).run Tryz.prog w = .ok (.agg #[.int .i64 z, .int .i64 u]) w := fun x y z u w => by
    simp [part, Tryz.isAgg23, Tryz.sizeOf23]
  simp only [Op.eqItems, Nat.zero_mul, Nat.one_mul, Sem.run_bind, p0, p2, Result.andThen_ok, spanEqD 9997]
  by_cases e1 : a = a' <;> by_cases e2 : b = b' <;> by_cases e3 : c = c' <;> by_cases e4 : d = d' <;> simp [e1, e2, e3, e4, p2, spanEqD 9997]
section
variable {r : Option Nat} {H : List AObj} {ρ : Operand → AV} {d : Option Tmp} {t : TypeId} {p : String} {af : Array Edge} {g : Option (Nat × Bool)} {x y : Operand} {yt : TypeId}
theorem ev_sc_neq {a b : Sc} (hx : Less (ρ x) (.agg (sc a))) (hy : Less (ρ y) (.agg (sc b))) : Ev Tryz.prog r ⟨d, .binOp .neq 84 x y yt, t, p, af, g⟩ H ρ (B (!decide (a = b))) :=
  ev_neq_agg (by kernel_rfl) (scEq a b) (Less.trans hx (less_agg_raw (vs := [.int .i64 a.part, .int .i64 a.least, .int .i64 a.most, .bool a.loose, .int .i64 a.wants]) rfl)) (Less.trans hy (less_agg_raw (vs := [.int .i64 b.part, .int .i64 b.least, .int .i64 b.most, .bool b.loose, .int .i64 b.wants]) rfl))
theorem ev_stars_eql {a b c e a' b' c' e' : Int} (hx : Less (ρ x) (.agg [I a, I b, I c, I e])) (hy : Less (ρ y) (.agg [I a', I b', I c', I e'])) : Ev Tryz.prog r ⟨d, .binOp .eql 24 x y yt, t, p, af, g⟩ H ρ (B (decide (a = a' ∧ b = b' ∧ c = c' ∧ e = e'))) :=
  ev_eql_agg (by kernel_rfl) (arrEq a b c e a' b' c' e') (Less.trans hx (less_agg_raw (vs := [.int .i64 a, .int .i64 b, .int .i64 c, .int .i64 e]) rfl)) (Less.trans hy (less_agg_raw (vs := [.int .i64 a', .int .i64 b', .int .i64 c', .int .i64 e']) rfl))
end
def sscBad (a b : List Sc) (h : a.length = b.length) (i : Nat) (hi : i < a.length) : Bool := !decide (a[i] = b[i]'(by omega))
theorem ssc_okAll {a b : List Sc} (h : a.length = b.length) : okAll a.length (sscBad a b h) = decide (a = b) := by
  rw [Bool.eq_iff_iff, okAll_iff, decide_eq_true_eq]
  constructor
  · intro k
    exact List.ext_getElem h fun i h1 h2 => by have := k i h1; simpa [sscBad] using this
  · rintro rfl i hi; simp [sscBad]
theorem pl_eq {a b : Pl} : a = b ↔ (a.beg = b.beg ∧ (a.s0l = b.s0l ∧ a.s0h = b.s0h ∧ a.s1l = b.s1l ∧ a.s1h = b.s1h) ∧ (a.dl = b.dl ∧ a.dh = b.dh) ∧ a.scenes = b.scenes) := by
  cases a; cases b; simp only [Pl.mk.injEq, and_assoc]
theorem pl_dec (a b : Pl) : decide (a = b) = (decide (a.beg = b.beg) && (decide (a.s0l = b.s0l ∧ a.s0h = b.s0h ∧ a.s1l = b.s1l ∧ a.s1h = b.s1h) && ((decide (a.dl = b.dl) && decide (a.dh = b.dh)) && decide (a.scenes = b.scenes)))) := by
  rw [Bool.eq_iff_iff]; simp only [decide_eq_true_eq, Bool.and_eq_true]; exact pl_eq
def printAV (p : Pl) : AV := if PlOK p = true then .tup [S (sheetL p), I 0] else .tup [S [], I 2]
set_option maxHeartbeats 1000000 in
theorem rscs_pure (a b : List Sc) (ha : a.length ≤ 100000000) (hb : b.length ≤ 100000000) : APure Tryz.prog 118 [.sl 5 (a.map sc), .sl 5 (b.map sc)] (B (decide (a = b))) := by
  refine apure_of (rs := [.tmp 4]) Tryz.func118 rfl rfl (Nat.le_of_ble_eq_true rfl) (by simp [AV.pureL, AV.pureB, AV.pureE, pureE_map]) (rfl) fun e0 he0 => ?_
  refine aw_seq (aw_region ?_)
  refine asr (lr _) rfl ?_
  refine sq_nil (aw_seq (aw_seq (aw_region ?_)))
  refine mvs rfl (lr _) ?_
  refine sq_ev rfl (ev_len_map sl25 (lr _)) ?_
  refine mvs rfl (lr _) ?_
  refine sq_ev rfl (ev_len_map sl25 (lr _)) ?_
  refine sq_ev rfl (ev_neq (lr _) (lr _)) ?_
  refine sq_nil ?_
  refine aw_cond (lr _) (fun c1 => ?_) (fun c1 => ?_)
  · skip
    have c1' := c1
    try simp only [qq] at c1'
    refine aw_seq (aw_region ?_)
    refine asr (lr _) rfl ?_
    refine sq_nil (aw_ret ?_)
    exact retQ_pure (v := .raw _) rfl rfl (Less.eq (by rw [show decide (a = b) = false from (by simp only [decide_eq_false_iff_not]; rintro rfl; exact c1' rfl)]))
  · skip
    have c1' := c1
    try simp only [qq] at c1'
    have hlen : a.length = b.length := by omega
    refine aw_skip (aw_seq (aw_seq (aw_region ?_)))
    refine asr (lr _) rfl ?_
    refine sq_nil (aw_block ?_)
    refine aw_loopk (ι := { k : Nat // k ≤ a.length ∧ ∀ i, (h : i < a.length) → i < k → sscBad a b hlen i h = false }) [0, 1] (fun i => [(5, I i.1)]) (fun H i => H) (fun i => a.length - i.1) (⟨0, Nat.zero_le _, by omega⟩) ⟨lr _, lr _, lr _, trivial⟩ rfl ?_
    rintro ⟨k, hk, hok⟩
    dsimp only [keepS, St.put, sget, slotsOf, List.map_cons, List.map_nil, List.cons_append, List.nil_append, List.length_cons, List.length_nil, Nat.reduceBEq, Nat.reduceAdd, cond_true, cond_false]
    refine aw_seq (aw_seq (aw_region ?_))
    refine mvr (lr _) rfl ?_
    refine mvs rfl (lr _) ?_
    refine sq_ev rfl (ev_len_map sl25 (lr _)) ?_
    refine sq_ev rfl (ev_lss (lr _) (lr _)) ?_
    refine sq_nil ?_
    refine aw_cond (lr _) (fun c2 => ?_) (fun c2 => ?_)
    · skip
      have c2' := c2
      try simp only [qq] at c2'
      refine aw_skip (aw_seq (aw_block (aw_seq ?_)))
      refine aw_draw 9 mo (by kernel_rfl) ?_
      refine dr_ev rfl (ev_mv (v := .sl _ _) (lr _)) ?_
      refine dr_ev rfl (ev_mv (v := .raw _) (lr _)) ?_
      refine dr_ev rfl (ev_index_map sl25 (lr _) (lr _) rfl (by omega)) ?_
      refine dr_ev rfl (ev_load_agg_i (lr _) ty84 (Nat.le_of_ble_eq_true rfl)) ?_
      refine dr_ev rfl (ev_mv (v := .sl _ _) (lr _)) ?_
      refine dr_ev rfl (ev_mv (v := .raw _) (lr _)) ?_
      refine dr_ev rfl (ev_index_map sl25 (lr _) (lr _) rfl (by omega)) ?_
      refine dr_ev rfl (ev_load_agg_i (lr _) ty84 (Nat.le_of_ble_eq_true rfl)) ?_
      refine dr_ev rfl (ev_sc_neq (lr _) (lr _)) ?_
      refine dr_end (sq_nil ?_)
      refine aw_cond (lr _) (fun c3 => ?_) (fun c3 => ?_)
      · skip
        have c3' := c3
        try simp only [qq] at c3'
        refine aw_seq (aw_region ?_)
        refine asr (lr _) rfl ?_
        refine sq_nil (aw_ret ?_)
        exact retQ_pure (v := .raw _) rfl rfl (Less.eq (by rw [← ssc_okAll hlen, okAll_bad (i := k) (by omega) (by first | (simp [sscBad, *]; done) | (simp_all [sscBad]; done))]))
      · skip
        have c3' := c3
        try simp only [qq] at c3'
        refine aw_skip (aw_region ?_)
        refine mvr (lr _) rfl ?_
        refine sq_ev rfl (ev_add (lr _) (lr _) (wr (by omega) (by omega))) ?_
        refine asr (lr _) rfl ?_
        refine sq_nil ?_
        have hgood : sscBad a b hlen k (by omega) = false := by first | (simp [sscBad, *]; done) | (simp_all [sscBad]; done)
        exact ⟨⟨k + 1, by omega, fun i h hi => (by by_cases e : i = k; (subst e; exact hgood); exact hok i h (by omega))⟩, by simp only; omega, Sub.slots ⟨lr _, lr _, lr _, trivial⟩⟩
    · skip
      have c2' := c2
      try simp only [qq] at c2'
      refine aw_exit (aw_seq (aw_region ?_))
      refine asr (lr _) rfl ?_
      refine sq_nil (aw_ret ?_)
      exact retQ_pure (v := .raw _) rfl rfl (Less.eq (by rw [← ssc_okAll hlen, okAll_end hk c2' hok]))
set_option maxHeartbeats 1000000 in
theorem rplans_pure (a b : Pl) (ha : a.scenes.length ≤ 100000000) (hb : b.scenes.length ≤ 100000000) : APure Tryz.prog 53 [plan a, plan b] (B (decide (a = b))) := by
 refine apure_of (rs := [.tmp 4]) Tryz.func53 rfl rfl (Nat.le_of_ble_eq_true rfl) (by simp [AV.pureL, AV.pureB, AV.pureE, pureE_map]) (rfl) fun e0 he0 => ?_
 refine aw_seq (aw_region ?_)
 refine sq_box rfl (lr _) rfl ?_
 refine sq_box rfl (lr _) rfl ?_
 refine asr (lr _) rfl ?_
 refine sq_nil (aw_seq (aw_region ?_))
 refine sq_ev rfl (ev_fieldAddr fo27_0 (lr _)) ?_
 refine sq_ev rfl (ev_load (lr _) rfl ty3 rfl) ?_
 refine sq_ev rfl (ev_fieldAddr fo27_0 (lr _)) ?_
 refine sq_ev rfl (ev_load (lr _) rfl ty3 rfl) ?_
 refine sq_ev rfl (ev_eql (lr _) (lr _)) ?_
 refine mvr (lr _) rfl ?_
 refine sq_split 10 (lr _) (fun g1 => ?_) (fun g1 => ?_)
 ·
  have g1' := g1
  try simp only [qq] at g1'
  refine sq_yes rfl rfl (less_b g1) rfl (ev_fieldAddr fo27_1 (lr _)) ?_
  refine sq_yes rfl rfl (less_b g1) rfl (ev_load_agg (lr _) rfl ty24 rfl) ?_
  refine sq_yes rfl rfl (less_b g1) rfl (ev_fieldAddr fo27_1 (lr _)) ?_
  refine sq_yes rfl rfl (less_b g1) rfl (ev_load_agg (lr _) rfl ty24 rfl) ?_
  refine sq_yes rfl rfl (less_b g1) rfl (ev_stars_eql (lr _) (lr _)) ?_
  refine sq_ev rfl (ev_pickT (v := .raw _) (less_b g1) (lr _)) ?_
  refine mvr (lr _) rfl ?_
  refine sq_split 17 (lr _) (fun g2 => ?_) (fun g2 => ?_)
  ·
   have g2' := g2
   try simp only [qq] at g2'
   refine sq_yes rfl rfl (less_b g2) rfl (ev_fieldAddr fo27_2 (lr _)) ?_
   refine sq_yes rfl rfl (less_b g2) rfl (ev_load_agg (lr _) rfl ty23 rfl) ?_
   refine sq_yes rfl rfl (less_b g2) rfl (ev_fieldAddr fo27_2 (lr _)) ?_
   refine sq_yes rfl rfl (less_b g2) rfl (ev_load_agg (lr _) rfl ty23 rfl) ?_
   refine sq_yes rfl rfl (less_b g2) rfl (ev_span_eql (lr _) (lr _)) ?_
   refine sq_ev rfl (ev_pickT (v := .raw _) (less_b g2) (lr _)) ?_
   refine mvr (lr _) rfl ?_
   refine sq_split 24 (lr _) (fun g3 => ?_) (fun g3 => ?_)
   ·
    have g3' := g3
    try simp only [qq] at g3'
    refine sq_yes rfl rfl (less_b g3) rfl (ev_fieldAddr fo27_3 (lr _)) ?_
    refine sq_yes rfl rfl (less_b g3) rfl (ev_load (lr _) rfl ty25 rfl) ?_
    refine sq_yes rfl rfl (less_b g3) rfl (ev_fieldAddr fo27_3 (lr _)) ?_
    refine sq_yes rfl rfl (less_b g3) rfl (ev_load (lr _) rfl ty25 rfl) ?_
    refine sq_yes rfl rfl (less_b g3) rfl (ev_call en118 (lr _) (rscs_pure a.scenes b.scenes ha hb) ⟨lr _, lr _, trivial⟩) ?_
    refine sq_ev rfl (ev_pickT (v := .raw _) (less_b g3) (lr _)) ?_
    refine asr (lr _) rfl ?_
    refine sq_nil (aw_ret ?_)
    exact retQ_pure (v := .raw _) rfl rfl (Less.eq (by rw [pl_dec]; simp_all))
   ·
    have g3' := g3
    try simp only [qq] at g3'
    refine sq_no rfl rfl (less_b g3) rfl rfl ?_
    refine sq_no rfl rfl (less_b g3) rfl rfl ?_
    refine sq_no rfl rfl (less_b g3) rfl rfl ?_
    refine sq_no rfl rfl (less_b g3) rfl rfl ?_
    refine sq_no rfl rfl (less_b g3) rfl rfl ?_
    refine sq_ev rfl (ev_pickF (v := .raw _) (less_b g3) (lr _)) ?_
    refine asr (lr _) rfl ?_
    refine sq_nil (aw_ret ?_)
    exact retQ_pure (v := .raw _) rfl rfl (Less.eq (by rw [pl_dec]; simp_all))
  ·
   have g2' := g2
   try simp only [qq] at g2'
   refine sq_no rfl rfl (less_b g2) rfl rfl ?_
   refine sq_no rfl rfl (less_b g2) rfl rfl ?_
   refine sq_no rfl rfl (less_b g2) rfl rfl ?_
   refine sq_no rfl rfl (less_b g2) rfl rfl ?_
   refine sq_no rfl rfl (less_b g2) rfl rfl ?_
   refine sq_ev rfl (ev_pickF (v := .raw _) (less_b g2) (lr _)) ?_
   refine mvr (lr _) rfl ?_
   refine sq_no rfl rfl (lr _) rfl rfl ?_
   refine sq_no rfl rfl (lr _) rfl rfl ?_
   refine sq_no rfl rfl (lr _) rfl rfl ?_
   refine sq_no rfl rfl (lr _) rfl rfl ?_
   refine sq_no rfl rfl (lr _) rfl rfl ?_
   refine pf rfl (lr _) (lr _) ?_
   refine asr (lr _) rfl ?_
   refine sq_nil (aw_ret ?_)
   exact retQ_pure (v := .raw _) rfl rfl (Less.eq (by rw [pl_dec]; simp_all))
 ·
  have g1' := g1
  try simp only [qq] at g1'
  refine sq_no rfl rfl (less_b g1) rfl rfl ?_
  refine sq_no rfl rfl (less_b g1) rfl rfl ?_
  refine sq_no rfl rfl (less_b g1) rfl rfl ?_
  refine sq_no rfl rfl (less_b g1) rfl rfl ?_
  refine sq_no rfl rfl (less_b g1) rfl rfl ?_
  refine sq_ev rfl (ev_pickF (v := .raw _) (less_b g1) (lr _)) ?_
  refine mvr (lr _) rfl ?_
  refine sq_no rfl rfl (lr _) rfl rfl ?_
  refine sq_no rfl rfl (lr _) rfl rfl ?_
  refine sq_no rfl rfl (lr _) rfl rfl ?_
  refine sq_no rfl rfl (lr _) rfl rfl ?_
  refine sq_no rfl rfl (lr _) rfl rfl ?_
  refine pf rfl (lr _) (lr _) ?_
  refine mvr (lr _) rfl ?_
  refine sq_no rfl rfl (lr _) rfl rfl ?_
  refine sq_no rfl rfl (lr _) rfl rfl ?_
  refine sq_no rfl rfl (lr _) rfl rfl ?_
  refine sq_no rfl rfl (lr _) rfl rfl ?_
  refine sq_no rfl rfl (lr _) rfl rfl ?_
  refine pf rfl (lr _) (lr _) ?_
  refine asr (lr _) rfl ?_
  refine sq_nil (aw_ret ?_)
  exact retQ_pure (v := .raw _) rfl rfl (Less.eq (by rw [pl_dec]; simp_all))
set_option maxHeartbeats 400000 in
theorem nPrint_pure (p : Pl) (hl : p.scenes.length ≤ 1000000) : APure Tryz.prog 50 [plan p] (printAV p) := by
 refine apure_of (rs := [.tmp 2, .tmp 3]) Tryz.func50 rfl rfl (Nat.le_of_ble_eq_true rfl) (by simp [AV.pureL, AV.pureB, AV.pureE, pureE_map]) (by unfold printAV; split <;> rfl) fun e0 he0 => ?_
 refine aw_seq (aw_region ?_)
 refine sq_box rfl (lr _) rfl ?_
 refine asr (lr _) rfl ?_
 refine asr (lr _) rfl ?_
 refine sq_nil (aw_seq (aw_seq (aw_region ?_)))
 refine sq_ev rfl (ev_load_agg (lr _) rfl ty27 rfl) ?_
 refine sq_ev rfl (ev_call en85 (lr _) (isplan_pure p hl) ⟨lr _, trivial⟩) ?_
 refine sq_ev rfl (ev_not (lr _)) ?_
 refine sq_nil ?_
 refine aw_cond (lr _) (fun c1 => ?_) (fun c1 => ?_)
 ·
  have c1' := c1
  try simp only [qq] at c1'
  refine aw_seq (aw_region ?_)
  refine asr (lr _) rfl ?_
  refine asr (lr _) rfl ?_
  refine sq_nil (aw_ret ?_)
  exact retQ_pure (v := .tup [.raw _, .raw _]) rfl rfl (Less.eq (by unfold printAV; rw [if_neg (by simpa using c1)]))
 ·
  have c1' := c1
  try simp only [qq] at c1'
  have hk : PlOK p = true := by simpa using c1
  refine aw_skip (aw_seq (aw_region ?_))
  refine sq_ev rfl (ev_load_agg (lr _) rfl ty27 rfl) ?_
  refine sq_ev rfl (ev_call en112 (lr _) (nsheet_pure p (td_sm (ok_td hk))) ⟨lr _, trivial⟩) ?_
  refine asr (lr _) rfl ?_
  refine asr (lr _) rfl ?_
  refine sq_nil (aw_ret ?_)
  exact retQ_pure (v := .tup [.raw _, .raw _]) rfl rfl (Less.eq (by unfold printAV; rw [if_pos hk]))
theorem pt_yes {p : Pl} (hs : p.scenes.length ≤ 12) (h : PlOK p = true) : APure Tryz.prog 50 [plan p] (.tup [S (sheetL p), I 0]) := by have := nPrint_pure p (by omega); unfold printAV at this; rwa [if_pos h] at this
theorem ok_len {p : Pl} (h : PlOK p = true) : p.scenes.length ≤ 10 := by
  unfold PlOK at h
  simp only [Bool.and_eq_true, decide_eq_true_eq, inn] at h
  omega
end Go.Proofs.YtjghdbdiejaacaaGreatDoor
namespace Go.Proofs.YtjghdbdiejaacaaGreatDoor
open Go Go.Ab Ni
theorem en119 : Ent Tryz.prog 119 := Ent.of Tryz.func119 (by kernel_rfl) rfl
theorem en120 : Ent Tryz.prog 120 := Ent.of Tryz.func120 (by kernel_rfl) rfl
theorem en121 : Ent Tryz.prog 121 := Ent.of Tryz.func121 (by kernel_rfl) rfl
theorem bs_extract (s : List UInt8) (lo hi : Nat) : (⟨s.toArray⟩ : ByteArray).extract lo hi = ⟨((s.take hi).drop lo).toArray⟩ := by
  apply ByteArray.ext
  rw [ByteArray.data_extract]
  apply Array.ext'
  simp [List.drop_take]
theorem cut_piece {c : UInt8} {s : List UInt8} {f i : Nat} (hf : f ≤ i) (hi : i < s.length) (hc : s[i] = c) (hn : ∀ j (h : j < s.length), f ≤ j → j < i → s[j] ≠ c) : cut c (s.drop f) = ((s.take i).drop f) :: cut c (s.drop (i + 1)) := by
  have e : s.drop f = (s.take i).drop f ++ c :: s.drop (i + 1) := by
    have h1 : s.take i ++ s.drop i = s := List.take_append_drop i s
    have h2 : s.drop i = c :: s.drop (i + 1) := by rw [← hc]; exact List.drop_eq_getElem_cons hi
    conv => lhs; rw [← h1, h2, List.drop_append_of_le_length (by simp; omega)]
  rw [e]
  refine cut_app fun hm => ?_
  obtain ⟨j, hj, ej⟩ := List.getElem_of_mem hm
  rw [List.length_drop, List.length_take] at hj
  rw [List.getElem_drop, List.getElem_take] at ej
  exact hn (f + j) (by omega) (by omega) (by omega) ej
theorem cut_last {c : UInt8} {s : List UInt8} {f : Nat} (hn : ∀ j (h : j < s.length), f ≤ j → s[j] ≠ c) : cut c (s.drop f) = [s.drop f] := by
  refine cut_no fun hm => ?_
  obtain ⟨j, hj, ej⟩ := List.getElem_of_mem hm
  rw [List.length_drop] at hj
  rw [List.getElem_drop] at ej
  exact hn (f + j) (by omega) (by omega) ej
theorem u8_ne {a c : UInt8} (h : ¬ (a.toNat : Int) = c.toNat) : a ≠ c := fun e => h (by rw [e])
theorem u8_eq {a c : UInt8} (h : (a.toNat : Int) = c.toNat) : a = c := UInt8.toNat_inj.1 (by omega)
def numQ (w : List UInt8) : Int × Bool := if w = [] ∨ 3 < w.length then (0, false) else if ¬ w.all isD = true then (0, false) else (valN w, decide (Lib.itoa (valN w) = w))
theorem numQ_some {w : List UInt8} {n : Int} (h : numOf w = some n) : numQ w = (n, true) := by
  unfold numOf at h
  split at h
  · rename_i g
    simp only [Option.some.injEq] at h; subst h
    unfold numQ
    rw [if_neg (by intro k; rcases k with k | k; exact g.2.2.1 k; omega), if_neg (by simpa using g.1), decide_eq_true g.2.2.2]
  · cases h
theorem numQ_none {w : List UInt8} (h : numOf w = none) : (numQ w).2 = false := by
  unfold numOf at h
  split at h
  · cases h
  · rename_i g
    unfold numQ
    split
    · rfl
    · split
      · rfl
      · rename_i g1 g2
        simp only [decide_eq_false_iff_not]
        intro e
        exact g ⟨Decidable.not_not.1 g2, by omega, fun k => g1 (.inl k), e⟩
theorem numQ_long {w : List UInt8} (h : w = [] ∨ 3 < w.length) : numQ w = (0, false) := by unfold numQ; rw [if_pos h]
theorem numQ_dig {w : List UInt8} {k : Nat} (hk : k < w.length) (h : isD w[k] = false) : numQ w = (0, false) := by
  unfold numQ
  split
  · rfl
  · rw [if_pos (by intro g; have := List.all_eq_true.1 g _ (List.getElem_mem hk); rw [h] at this; cases this)]
theorem numQ_end {w : List UInt8} (h : ¬ (w = [] ∨ 3 < w.length)) (hd : ∀ i, (h : i < w.length) → isD w[i] = true) : numQ w = (valN w, decide (Lib.itoa (valN w) = w)) := by
  unfold numQ
  rw [if_neg h, if_neg (by
    simp only [Decidable.not_not, List.all_eq_true]
    intro x hx
    obtain ⟨i, hi, rfl⟩ := List.getElem_of_mem hx
    exact hd i hi)]
def numsV (ws : List (List UInt8)) : List Int := (numsOf ws).getD []
set_option maxHeartbeats 1000000 in
theorem rsplit_pure (s : List UInt8) (c : UInt8) (hs : s.length ≤ 1000000) : APure Tryz.prog 119 [S s, .raw (.int .u8 c.toNat)] (.sl 1 ((cut c s).map fun p => [S p])) := by
  refine apure_of (rs := [.tmp 4]) Tryz.func119 rfl rfl (Nat.le_of_ble_eq_true rfl) (by simp [AV.pureL, AV.pureB, AV.pureE, pureE_map]) (by simp [AV.pureL, AV.pureB, AV.pureE, pureE_map]) fun e0 he0 => ?_
  refine aw_seq (aw_region ?_)
  refine asr (lr _) rfl ?_
  refine sq_nil (aw_seq (aw_region ?_))
  refine asr (lr _) rfl ?_
  refine sq_nil (aw_seq (aw_region ?_))
  refine asr (lr _) rfl ?_
  refine sq_nil (aw_seq (aw_seq (aw_region ?_)))
  refine asr (lr _) rfl ?_
  refine sq_nil (aw_block ?_)
  refine aw_sub (sub_token 5 1 (lr _)) ?_
  refine aw_loopk (ι := { x : Nat × Nat × List (List UInt8) // (x.1 ≤ s.length ∧ x.2.1 ≤ x.1) ∧ (∀ j, (h : j < s.length) → x.2.1 ≤ j → j < x.1 → s[j] ≠ c) ∧ x.2.2 ++ cut c (s.drop x.2.1) = cut c s }) [0, 1] (fun x => [(7, I x.1.1), (6, I x.1.2.1), (5, .own 0 1 ((x.1.2.2).map (fun p => [S p])))]) (fun H x => [.tok (x.1.2.2.map (fun p => [S p])).length]) (fun x => s.length - x.1.1) (⟨(0, 0, []), ⟨Nat.zero_le _, Nat.le_refl _⟩, fun j _ _ h => by simp at h, by simp⟩) ⟨lr _, lr _, lr _, lr _, lr _, trivial⟩ rfl ?_
  rintro ⟨⟨i, f, out⟩, ⟨hi, hfi⟩, hno, hcut⟩
  dsimp only [keepS, St.put, sget, slotsOf, List.map_cons, List.map_nil, List.cons_append, List.nil_append, List.length_cons, List.length_nil, Nat.reduceBEq, Nat.reduceAdd, cond_true, cond_false]
  simp only at hi hfi hno hcut
  have hcl := cut_len c s
  have hol : out.length ≤ s.length + 1 := by have := congrArg List.length hcut; rw [List.length_append] at this; omega
  refine aw_seq (aw_seq (aw_region ?_))
  refine mvr (lr _) rfl ?_
  refine mvr (lr _) rfl ?_
  refine sq_ev rfl (ev_lenS Tryz.underlying9 (lr _)) ?_
  refine sq_ev rfl (ev_lss (lr _) (lr _)) ?_
  refine sq_nil ?_
  refine aw_cond (lr _) (fun c1 => ?_) (fun c1 => ?_)
  · skip
    have c1' := c1
    try simp only [qq] at c1'
    have hi' : i < s.length := by omega
    refine aw_skip (aw_seq (aw_block (aw_seq (aw_region ?_))))
    refine mvr (lr _) rfl ?_
    refine mvr (lr _) rfl ?_
    refine sq_ev rfl (ev_idxS Tryz.underlying9 (lr _) (lr _) rfl (by omega)) ?_
    refine mvr (lr _) rfl ?_
    refine sq_ev rfl (ev_eql (k := .u8) (lr _) (lr _)) ?_
    refine sq_nil ?_
    refine aw_cond (lr _) (fun c2 => ?_) (fun c2 => ?_)
    · skip
      have c2' := c2
      try simp only [qq] at c2'
      refine aw_seq (aw_region ?_)
      refine sq_ev rfl (ev_mv (v := .own _ _ _) (lr _)) ?_
      refine mvr (lr _) rfl ?_
      refine mvr (lr _) rfl ?_
      refine mvr (lr _) rfl ?_
      refine sq_ev rfl (ev_less (ev_slice_str (s := ⟨s.toArray⟩) (lo := f) (hi := i) Tryz.underlying9 (lr _) (lr _) (lr _) hfi (by rw [bs_size]; omega)) (Less.eq (b := S ((s.take i).drop f)) (by rw [bs_extract]))) ?_
      refine sq_ev rfl (ev_buildSlice (es := [[_]]) sf138 rfl rfl rfl rfl) ?_
      refine sq_append rfl sf138 Tryz.underlying138 rfl rfl (less_slx _ _) (Nat.succ_pos _) (by simp; omega) (by simp; omega) ?_
      refine sq_ev rfl (ev_as (v := .own _ _ _) (lr _)) ?_
      refine sq_nil (aw_region ?_)
      refine mvr (lr _) rfl ?_
      refine sq_ev rfl (ev_add (lr _) (lr _) (wr (by omega) (by omega))) ?_
      refine asr (lr _) rfl ?_
      refine sq_nil (aw_region ?_)
      refine mvr (lr _) rfl ?_
      refine sq_ev rfl (ev_add (lr _) (lr _) (wr (by omega) (by omega))) ?_
      refine asr (lr _) rfl ?_
      refine sq_nil ?_
      exact ⟨⟨(i + 1, i + 1, out ++ [(s.take i).drop f]), ⟨by simp only; omega, Nat.le_refl _⟩, fun j _ h1 h2 => by simp only at h1 h2; omega, by simp only; rw [← hcut, cut_piece hfi hi' (u8_eq c2') (fun j h h1 h2 => hno j h h1 h2)]; simp⟩, by simp only; omega, Sub.fin 1 ⟨lr _, lr _, Less.eq (b := .own 0 1 ((out ++ [(s.take i).drop f]).map (fun p => [S p]))) (by rw [List.map_append] <;> rfl), lr _, lr _, trivial⟩ (congrArg (fun n => [AObj.tok n]) (by simp)) (by simp [slotsIn, objsIn, sget, keepS, AObj.inB, AV.inB, AV.inL, AV.inE, inE_map, inE_ints, inE_sc, -List.map_append, -List.map_take, -List.map_map]) (by simp [slotsIn, objsIn, sget, keepS, AObj.inB, AV.inB, AV.inL, AV.inE, inE_map, inE_ints, inE_sc, -List.map_append, -List.map_take, -List.map_map]) (by simp [he0])⟩
    · skip
      have c2' := c2
      try simp only [qq] at c2'
      refine aw_skip (aw_region ?_)
      refine mvr (lr _) rfl ?_
      refine sq_ev rfl (ev_add (lr _) (lr _) (wr (by omega) (by omega))) ?_
      refine asr (lr _) rfl ?_
      refine sq_nil ?_
      exact ⟨⟨(i + 1, f, out), ⟨by simp only; omega, by simp only; omega⟩, fun j h h1 h2 => by
              simp only at h1 h2
              by_cases e : j = i
              · subst e; exact u8_ne c2'
              · exact hno j h h1 (by omega), hcut⟩, by simp only; omega, Sub.fin 1 ⟨lr _, lr _, lr _, lr _, lr _, trivial⟩ rfl (by simp [slotsIn, objsIn, sget, keepS, AObj.inB, AV.inB, AV.inL, AV.inE, inE_map, inE_ints, inE_sc, -List.map_append, -List.map_take, -List.map_map]) (by simp [slotsIn, objsIn, sget, keepS, AObj.inB, AV.inB, AV.inL, AV.inE, inE_map, inE_ints, inE_sc, -List.map_append, -List.map_take, -List.map_map]) (by simp [he0])⟩
  · skip
    have c1' := c1
    try simp only [qq] at c1'
    obtain rfl : i = s.length := by omega
    have hlast := cut_last (c := c) (s := s) (f := f) (fun j h h2 => hno j h h2 (by omega))
    rw [hlast] at hcut
    refine aw_exit (aw_seq (aw_region ?_))
    refine sq_ev rfl (ev_mv (v := .own _ _ _) (lr _)) ?_
    refine mvr (lr _) rfl ?_
    refine mvr (lr _) rfl ?_
    refine sq_ev rfl (ev_less (ev_slice_str (s := ⟨s.toArray⟩) (lo := f) (hi := s.length) Tryz.underlying9 (lr _) (lr _) (by rw [bs_size]) (by omega) (by rw [bs_size]; omega)) (Less.eq (b := S (s.drop f)) (by rw [bs_extract, List.take_length]))) ?_
    refine sq_ev rfl (ev_buildSlice (es := [[_]]) sf138 rfl rfl rfl rfl) ?_
    refine sq_append rfl sf138 Tryz.underlying138 rfl rfl (less_slx _ _) (Nat.succ_pos _) (by simp; omega) (by simp; omega) ?_
    refine sq_ev rfl (ev_as (v := .own _ _ _) (lr _)) ?_
    refine sq_nil (aw_ret ?_)
    exact retQ_pure (v := .own _ _ _) rfl rfl (Less.trans (less_own _ _ _) (Less.eq (by rw [← hcut]; simp)))
set_option maxHeartbeats 1000000 in
theorem rnumber_pure (w : List UInt8) (hw : w.length ≤ 1000000) : APure Tryz.prog 121 [S w, I 3] (.tup [I (numQ w).1, B (numQ w).2]) := by
 refine apure_of (rs := [.tmp 4, .tmp 5]) Tryz.func121 rfl rfl (Nat.le_of_ble_eq_true rfl) (by simp [AV.pureL, AV.pureB, AV.pureE, pureE_map]) (rfl) fun e0 he0 => ?_
 refine aw_seq (aw_region ?_)
 refine asr (lr _) rfl ?_
 refine asr (lr _) rfl ?_
 refine sq_nil (aw_seq (aw_seq (aw_region ?_)))
 refine mvr (lr _) rfl ?_
 refine sq_ev rfl (ev_lenS Tryz.underlying9 (lr _)) ?_
 refine sq_ev rfl (ev_eql (lr _) (lr _)) ?_
 refine mvr (lr _) rfl ?_
 refine sq_split 11 (lr _) (fun g1 => ?_) (fun g1 => ?_)
 ·
  have g1' := g1
  try simp only [qq] at g1'
  have hwe : w = [] := List.length_eq_zero_iff.1 (by omega)
  refine sq_no rfl rfl (less_b g1) rfl rfl ?_
  refine sq_no rfl rfl (less_b g1) rfl rfl ?_
  refine sq_no rfl rfl (less_b g1) rfl rfl ?_
  refine sq_no rfl rfl (less_b g1) rfl rfl ?_
  refine sq_ev rfl (ev_pickT (v := .raw _) (less_b g1) (lr _)) ?_
  refine sq_nil ?_
  refine aw_true (lr _) ?_
  refine aw_seq (aw_region ?_)
  refine asr (lr _) rfl ?_
  refine asr (lr _) rfl ?_
  refine sq_nil (aw_ret ?_)
  exact retQ_pure (v := .tup [.raw _, .raw _]) rfl rfl (Less.eq (by rw [numQ_long (.inl hwe)]))
 ·
  have g1' := g1
  try simp only [qq] at g1'
  have hw0 : w ≠ [] := fun e => by subst e; simp at g1
  refine sq_yes rfl rfl (less_b g1) rfl (ev_mv (v := .raw _) (lr _)) ?_
  refine sq_yes rfl rfl (less_b g1) rfl (ev_lenS Tryz.underlying9 (lr _)) ?_
  refine sq_yes rfl rfl (less_b g1) rfl (ev_mv (v := .raw _) (lr _)) ?_
  refine sq_yes rfl rfl (less_b g1) rfl (ev_gtr (lr _) (lr _)) ?_
  refine sq_ev rfl (ev_pickF (v := .raw _) (less_b g1) (lr _)) ?_
  refine sq_nil ?_
  refine aw_cond (lr _) (fun c2 => ?_) (fun c2 => ?_)
  ·
   have c2' := c2
   try simp only [qq] at c2'
   refine aw_seq (aw_region ?_)
   refine asr (lr _) rfl ?_
   refine asr (lr _) rfl ?_
   refine sq_nil (aw_ret ?_)
   exact retQ_pure (v := .tup [.raw _, .raw _]) rfl rfl (Less.eq (by rw [numQ_long (.inr (by omega))]))
  ·
   have c2' := c2
   try simp only [qq] at c2'
   have hlen : ¬ (w = [] ∨ 3 < w.length) := by rintro (h | h); exact hw0 h; omega
   have hl3 : w.length ≤ 3 := by omega
   refine aw_skip (aw_seq (aw_region ?_))
   refine asr (lr _) rfl ?_
   refine sq_nil (aw_seq (aw_seq (aw_region ?_)))
   refine asr (lr _) rfl ?_
   refine sq_nil (aw_block ?_)
   refine aw_loopk (ι := { k : Nat // k ≤ w.length ∧ ∀ i, (h : i < w.length) → i < k → isD w[i] = true }) [0] (fun k => [(7, I k.1), (6, I (valN (w.take k.1)))]) (fun H k => H) (fun k => w.length - k.1) (⟨0, Nat.zero_le _, by omega⟩) ⟨lr _, (by exact less_int (by simp [valN])), lr _, trivial⟩ rfl ?_
   rintro ⟨k, hk, hds⟩
   dsimp only [keepS, St.put, sget, slotsOf, List.map_cons, List.map_nil, List.cons_append, List.nil_append, List.length_cons, List.length_nil, Nat.reduceBEq, Nat.reduceAdd, cond_true, cond_false]
   have hv := valN_999 hk (by omega) hds
   refine aw_seq (aw_seq (aw_region ?_))
   refine mvr (lr _) rfl ?_
   refine mvr (lr _) rfl ?_
   refine sq_ev rfl (ev_lenS Tryz.underlying9 (lr _)) ?_
   refine sq_ev rfl (ev_lss (lr _) (lr _)) ?_
   refine sq_nil ?_
   refine aw_cond (lr _) (fun c3 => ?_) (fun c3 => ?_)
   ·
    have c3' := c3
    try simp only [qq] at c3'
    have hk' : k < w.length := by omega
    have hb8 : (w[k]).toNat < 256 := UInt8.toNat_lt _
    refine aw_skip (aw_seq (aw_block (aw_seq (aw_seq (aw_region ?_)))))
    refine mvr (lr _) rfl ?_
    refine mvr (lr _) rfl ?_
    refine sq_ev rfl (ev_idxS Tryz.underlying9 (lr _) (lr _) rfl (by omega)) ?_
    refine sq_ev rfl (ev_lss (lr _) (lr _)) ?_
    refine mvr (lr _) rfl ?_
    refine sq_split 27 (lr _) (fun g4 => ?_) (fun g4 => ?_)
    ·
     have g4' := g4
     try simp only [qq] at g4'
     refine sq_no rfl rfl (less_b g4) rfl rfl ?_
     refine sq_no rfl rfl (less_b g4) rfl rfl ?_
     refine sq_no rfl rfl (less_b g4) rfl rfl ?_
     refine sq_no rfl rfl (less_b g4) rfl rfl ?_
     refine sq_ev rfl (ev_pickT (v := .raw _) (less_b g4) (lr _)) ?_
     refine sq_nil ?_
     refine aw_true (lr _) ?_
     refine aw_seq (aw_region ?_)
     refine asr (lr _) rfl ?_
     refine asr (lr _) rfl ?_
     refine sq_nil (aw_ret ?_)
     exact retQ_pure (v := .tup [.raw _, .raw _]) rfl rfl (Less.eq (by rw [numQ_dig hk' (show isD w[k] = false from by rw [← Bool.not_eq_true, isD_iff]; omega)]))
    ·
     have g4' := g4
     try simp only [qq] at g4'
     refine sq_yes rfl rfl (less_b g4) rfl (ev_mv (v := .raw _) (lr _)) ?_
     refine sq_yes rfl rfl (less_b g4) rfl (ev_mv (v := .raw _) (lr _)) ?_
     refine sq_yes rfl rfl (less_b g4) rfl (ev_idxS Tryz.underlying9 (lr _) (lr _) rfl (by omega)) ?_
     refine sq_yes rfl rfl (less_b g4) rfl (ev_gtr (lr _) (lr _)) ?_
     refine sq_ev rfl (ev_pickF (v := .raw _) (less_b g4) (lr _)) ?_
     refine sq_nil ?_
     refine aw_cond (lr _) (fun c5 => ?_) (fun c5 => ?_)
     ·
      have c5' := c5
      try simp only [qq] at c5'
      refine aw_seq (aw_region ?_)
      refine asr (lr _) rfl ?_
      refine asr (lr _) rfl ?_
      refine sq_nil (aw_ret ?_)
      exact retQ_pure (v := .tup [.raw _, .raw _]) rfl rfl (Less.eq (by rw [numQ_dig hk' (show isD w[k] = false from by rw [← Bool.not_eq_true, isD_iff]; omega)]))
     ·
      have c5' := c5
      try simp only [qq] at c5'
      have hdk : isD w[k] = true := (isD_iff _).2 (by omega)
      refine aw_skip (aw_region ?_)
      refine mvr (lr _) rfl ?_
      refine sq_ev rfl (ev_mul (lr _) (lr _) (wr (by omega) (by omega))) ?_
      refine mvr (lr _) rfl ?_
      refine mvr (lr _) rfl ?_
      refine sq_ev rfl (ev_idxS Tryz.underlying9 (lr _) (lr _) rfl (by omega)) ?_
      refine sq_ev rfl (ev_sub (lr _) (lr _) (wr8 (by omega) (by omega))) ?_
      refine sq_ev rfl (ev_conv_int Tryz.underlying5 Tryz.underlying3 (lr _) (wr (by omega) (by omega))) ?_
      refine sq_ev rfl (ev_add (lr _) (lr _) (wr (by omega) (by omega))) ?_
      refine asr (lr _) rfl ?_
      refine sq_nil (aw_region ?_)
      refine mvr (lr _) rfl ?_
      refine sq_ev rfl (ev_add (lr _) (lr _) (wr (by omega) (by omega))) ?_
      refine asr (lr _) rfl ?_
      refine sq_nil ?_
      exact ⟨⟨k + 1, by omega, fun i h hi => (by by_cases e : i = k; (subst e; exact hdk); exact hds i h (by omega))⟩, by simp only; omega, Sub.slots ⟨lr _, (by exact less_int (valN_take hk').symm), lr _, trivial⟩⟩
   ·
    have c3' := c3
    try simp only [qq] at c3'
    obtain rfl : k = w.length := by omega
    have htk : w.take w.length = w := List.take_length
    have hv1 := hv
    rw [htk] at hv
    refine aw_exit (aw_seq (aw_region ?_))
    refine mvr (lr _) rfl ?_
    refine mvr (lr _) rfl ?_
    refine sq_ev rfl (ev_call en116 (lr _) (rdecimal_pure _ (by omega)) ⟨lr _, trivial⟩) ?_
    refine mvr (lr _) rfl ?_
    refine sq_ev rfl (ev_seqS (lr _) (lr _)) ?_
    refine asr (lr _) rfl ?_
    refine asr (lr _) rfl ?_
    refine sq_nil (aw_ret ?_)
    exact retQ_pure (v := .tup [.raw _, .raw _]) rfl rfl (Less.eq (by rw [numQ_end hlen (fun i h => hds i h h)]; simp [htk]))
set_option maxHeartbeats 1000000 in
theorem rnumbers_pure (ws : List (List UInt8)) (hw : ws.length ≤ 1000000) (hb : ∀ w ∈ ws, w.length ≤ 1000000) : APure Tryz.prog 120 [.sl 1 (ws.map fun p => [S p]), I 3] (.tup [ints (numsV ws), B (numsOf ws).isSome]) := by
 refine apure_of (rs := [.tmp 4, .tmp 5]) Tryz.func120 rfl rfl (Nat.le_of_ble_eq_true rfl) (by simp [AV.pureL, AV.pureB, AV.pureE, pureE_map]) (by simp [AV.pureL, AV.pureB, AV.pureE, pureE_map]) fun e0 he0 => ?_
 refine aw_seq (aw_region ?_)
 refine asr (lr _) rfl ?_
 refine asr (lr _) rfl ?_
 refine sq_nil (aw_seq (aw_region ?_))
 refine asr (lr _) rfl ?_
 refine sq_nil (aw_seq (aw_seq (aw_region ?_)))
 refine asr (lr _) rfl ?_
 refine sq_nil (aw_block ?_)
 refine aw_sub (sub_token 6 1 (lr _)) ?_
 refine aw_loopk (ι := { k : Nat // k ≤ ws.length ∧ ∀ i, (h : i < ws.length) → i < k → numOf ws[i] = some (valN ws[i]) }) [0, 1] (fun i => [(7, I i.1), (6, .own 0 1 (((ws.take i.1).map valN).map fun x => [I x]))]) (fun H i => H.set 0 (.tok (((ws.take i.1).map valN).map fun x => [I x]).length)) (fun i => ws.length - i.1) (⟨0, Nat.zero_le _, by omega⟩) ⟨lr _, lr _, lr _, lr _, trivial⟩ rfl ?_
 rintro ⟨k, hk, hok⟩
 dsimp only [keepS, St.put, sget, slotsOf, List.map_cons, List.map_nil, List.cons_append, List.nil_append, List.length_cons, List.length_nil, Nat.reduceBEq, Nat.reduceAdd, cond_true, cond_false]
 refine aw_seq (aw_seq (aw_region ?_))
 refine mvr (lr _) rfl ?_
 refine mvs rfl (lr _) ?_
 refine sq_ev rfl (ev_len_map sl138 (lr _)) ?_
 refine sq_ev rfl (ev_lss (lr _) (lr _)) ?_
 refine sq_nil ?_
 refine aw_cond (lr _) (fun c1 => ?_) (fun c1 => ?_)
 ·
  have c1' := c1
  try simp only [qq] at c1'
  have hk' : k < ws.length := by omega
  refine aw_skip (aw_seq (aw_block (aw_seq (aw_region ?_))))
  refine mvs rfl (lr _) ?_
  refine mvr (lr _) rfl ?_
  refine sq_ev rfl (ev_index_map sl138 (lr _) (lr _) rfl (by omega)) ?_
  refine sq_ev rfl (ev_load_i (lr _) ty9 rfl) ?_
  refine mvr (lr _) rfl ?_
  refine sq_ev rfl (ev_call en121 (lr _) (rnumber_pure ws[k] (hb _ (List.getElem_mem hk'))) ⟨lr _, lr _, trivial⟩) ?_
  refine sq_ev rfl (ev_mv (v := .tup _) (lr _)) ?_
  refine xtr rfl (lr _) rfl ?_
  refine xtr rfl (lr _) rfl ?_
  refine asr (lr _) rfl ?_
  refine asr (lr _) rfl ?_
  refine sq_nil (aw_seq (aw_seq (aw_region ?_)))
  refine mvr (lr _) rfl ?_
  refine sq_ev rfl (ev_not (lr _)) ?_
  refine sq_nil ?_
  refine aw_cond (lr _) (fun c2 => ?_) (fun c2 => ?_)
  ·
   have c2' := c2
   try simp only [qq] at c2'
   have hnn : numOf ws[k] = none := by
     cases h : numOf ws[k] with
     | none => rfl
     | some n => rw [numQ_some h] at c2'; cases c2'
   have hns : numsOf ws = none := numsOf_bad hk' hnn
   refine aw_seq (aw_region ?_)
   refine asr (lr _) rfl ?_
   refine asr (lr _) rfl ?_
   refine sq_nil (aw_ret ?_)
   exact retQ_pure (v := .tup [.raw _, .raw _]) rfl rfl (Less.trans (b := .tup [.sl 1 [], B false]) (less_tup ⟨less_nil 1, lr _, trivial⟩) (Less.eq (by simp [numsV, hns])))
  ·
   have c2' := c2
   try simp only [qq] at c2'
   have hnk : numOf ws[k] = some (valN ws[k]) := by
     cases h : numOf ws[k] with
     | none => rw [numQ_none h] at c2'; cases c2'
     | some n => rw [← numOf_val h]
   have eS : ((ws.take (k + 1)).map valN).map (fun x => [I x]) = ((ws.take k).map valN).map (fun x => [I x]) ++ [[I (numQ ws[k]).1]] := by rw [map_take_succ _ hk', List.map_append, numQ_some hnk]; rfl
   refine aw_skip (aw_region ?_)
   refine sq_ev rfl (ev_mv (v := .own _ _ _) (lr _)) ?_
   refine mvr (lr _) rfl ?_
   refine sq_ev rfl (ev_buildSlice (es := [[_]]) sf34 rfl rfl rfl rfl) ?_
   refine sq_append rfl sf34 Tryz.underlying34 rfl rfl (less_slx _ _) (Nat.succ_pos _) (by simp; omega) (by simp; omega) ?_
   refine sq_ev rfl (ev_as (v := .own _ _ _) (lr _)) ?_
   refine sq_nil (aw_region ?_)
   refine mvr (lr _) rfl ?_
   refine sq_ev rfl (ev_add (lr _) (lr _) (wr (by omega) (by omega))) ?_
   refine asr (lr _) rfl ?_
   refine sq_nil ?_
   exact ⟨⟨k + 1, by omega, fun i h hi => (by by_cases e : i = k; (subst e; exact hnk); exact hok i h (by omega))⟩, by simp only; omega, Sub.fin 1 ⟨lr _, Less.eq (b := .own 0 1 (((ws.take (k + 1)).map valN).map fun x => [I x])) (by rw [eS] <;> rfl), lr _, lr _, trivial⟩ (congrArg (fun n => [AObj.tok n]) (congrArg List.length eS.symm)) (by simp [slotsIn, objsIn, sget, keepS, AObj.inB, AV.inB, AV.inL, AV.inE, inE_map, inE_ints, inE_sc, -List.map_append, -List.map_take, -List.map_map]) (by simp [slotsIn, objsIn, sget, keepS, AObj.inB, AV.inB, AV.inL, AV.inE, inE_map, inE_ints, inE_sc, -List.map_append, -List.map_take, -List.map_map]) (by simp [he0])⟩
 ·
  have c1' := c1
  try simp only [qq] at c1'
  obtain rfl : k = ws.length := by omega
  have hns : numsOf ws = some (ws.map valN) := numsOf_ok (by simp) (fun i h => by simpa using hok i h h)
  refine aw_exit (aw_seq (aw_region ?_))
  refine sq_ev rfl (ev_mv (v := .own _ _ _) (lr _)) ?_
  refine sq_ev rfl (ev_as (v := .own _ _ _) (lr _)) ?_
  refine asr (lr _) rfl ?_
  refine sq_nil (aw_ret ?_)
  exact retQ_pure (v := .tup [.own _ _ _, .raw _]) rfl rfl (Less.trans (b := .tup [ints (ws.map valN), B true]) (less_tup ⟨Less.trans (less_own _ _ _) (Less.eq (by simp)), lr _, trivial⟩) (Less.eq (by simp [numsV, hns])))
end Go.Proofs.YtjghdbdiejaacaaGreatDoor
namespace Go.Proofs.YtjghdbdiejaacaaGreatDoor
open Go Go.Ab Ni
theorem en54 : Ent Tryz.prog 54 := Ent.of Tryz.func54 (by kernel_rfl) rfl
abbrev I7 := Int × Int × Int × Int × Int × Int × Int
def l7 (a : I7) : List Int := [a.1, a.2.1, a.2.2.1, a.2.2.2.1, a.2.2.2.2.1, a.2.2.2.2.2.1, a.2.2.2.2.2.2]
def pl7 (a : I7) (q : List Sc) : Pl := ⟨a.1, a.2.1, a.2.2.1, a.2.2.2.1, a.2.2.2.2.1, a.2.2.2.2.2.1, a.2.2.2.2.2.2, q⟩
def RdInv (r0 : List UInt8) (rs : List (List UInt8)) (i : Nat) (a : I7) (q : List Sc) : Prop :=
  (i = 0 ∧ a = (0, 0, 0, 0, 0, 0, 0) ∧ q = []) ∨ (i = q.length + 1 ∧ 2 ≤ rs.length ∧ (∃ w0 ws, cut 32 r0 = w0 :: ws ∧ ws.length = 7 ∧ numsOf ws = some (l7 a)) ∧ q.length ≤ (rs.take (rs.length - 2)).length ∧
    ∀ j, (h : j < q.length) → (h2 : j < (rs.take (rs.length - 2)).length) → rowSc (rs.take (rs.length - 2))[j] = some q[j])
theorem numsOf_bds : ∀ {ws : List (List UInt8)} {ns : List Int}, numsOf ws = some ns → ns.length = ws.length ∧ ∀ n ∈ ns, 0 ≤ n ∧ n ≤ 999
  | [], ns, h => by simp only [numsOf, Option.some.injEq] at h; subst h; simp
  | w :: ws, ns, h => by
    rw [numsOf] at h
    split at h
    · rename_i n l h1 h2
      simp only [Option.some.injEq] at h; subst h
      obtain ⟨h3, h4⟩ := numsOf_bds h2
      refine ⟨by simp [h3], fun m hm => ?_⟩
      rcases List.mem_cons.1 hm with rfl | hm
      · exact numOf_bd h1
      · exact h4 m hm
    · cases h
theorem rd_td {r0 : List UInt8} {rs : List (List UInt8)} {i : Nat} {a : I7} {q : List Sc} (hr : rs.length ≤ 1000) (h : RdInv r0 rs i a q) : TdP (pl7 a q) := by
  rcases h with ⟨_, rfl, rfl⟩ | ⟨_, _, ⟨w0, ws, _, _, hn⟩, hl, hok⟩
  · refine ⟨fun n hn => ?_, fun x hx => (by cases hx), by simp [pl7]⟩
    rw [headL_eq] at hn
    simp only [pl7, List.mem_cons, List.not_mem_nil, or_false] at hn
    omega
  · refine ⟨fun n h => (numsOf_bds hn).2 n (by rw [headL_eq] at h; exact h), fun x hx => ?_, ?_⟩
    · obtain ⟨j, hj, rfl⟩ := List.getElem_of_mem hx
      exact rowSc_bd (hok j hj (by have h9 : j < q.length := hj; omega))
    · show q.length ≤ 1000
      rw [List.length_take] at hl; omega
theorem nums3 {w1 w2 w3 : List UInt8} {ns : List Int} (h : numsOf [w1, w2, w3] = some ns) : ∃ n1 n2 n3, ns = [n1, n2, n3] ∧ numOf w1 = some n1 ∧ numOf w2 = some n2 ∧ numOf w3 = some n3 := by
  simp only [numsOf] at h
  cases h1 : numOf w1 <;> cases h2 : numOf w2 <;> cases h3 : numOf w3 <;> simp only [h1, h2, h3] at h <;> first | cases h; done | skip
  simp only [Option.some.injEq] at h
  exact ⟨_, _, _, h.symm, rfl, rfl, rfl⟩
theorem rowSc_n3 {r w0 w1 w2 w3 w4 : List UInt8} (h : cut 32 r = [w0, w1, w2, w3, w4]) (hn : numsOf [w1, w2, w3] = none) : rowSc r = none := by
  rcases num_cases w1 with ⟨n1, h1⟩ | h1
  · rcases num_cases w2 with ⟨n2, h2⟩ | h2
    · rcases num_cases w3 with ⟨n3, h3⟩ | h3
      · simp only [numsOf, h1, h2, h3] at hn; cases hn
      · exact rowSc_3 h h3
    · exact rowSc_2 h h2
  · exact rowSc_1 h h1
theorem none_of {α : Type} {o : Option α} (h : o.isSome = false) : o = none := by cases o <;> simp_all
theorem rsplit10 (s : List UInt8) (hs : s.length ≤ 1000000) : APure Tryz.prog 119 [S s, .raw (.int .u8 10)] (.sl 1 ((cut 10 s).map fun p => [S p])) := rsplit_pure s 10 hs
theorem rsplit32 (s : List UInt8) (hs : s.length ≤ 1000000) : APure Tryz.prog 119 [S s, .raw (.int .u8 32)] (.sl 1 ((cut 32 s).map fun p => [S p])) := rsplit_pure s 32 hs
def refAV (s : List UInt8) : AV := match parseL s with | some p => .tup [plan p, B true] | none => .tup [plan pl0, B false]
theorem refAV_pure (s : List UInt8) : (refAV s).pureB = true := by unfold refAV; split <;> simp [AV.pureL, AV.pureB, AV.pureE, pureE_map]
theorem ref_no {s : List UInt8} (h : parseL s = none) : refAV s = .tup [plan pl0, B false] := by unfold refAV; rw [h]
theorem ref_yes {s : List UInt8} {p : Pl} (h : parseL s = some p) : refAV s = .tup [plan p, B true] := by unfold refAV; rw [h]
theorem rd_end {s r0 : List UInt8} {rs : List (List UInt8)} {i : Nat} {a : I7} {q : List Sc} (hR : cut 10 s = r0 :: rs) (hr : rs.length ≤ 1000) (h : RdInv r0 rs i a q) (hi : ¬ (i : Int) < ((r0 :: rs).length : Int) - 2) :
    parseL s = if sheetL (pl7 a q) = s then some (pl7 a q) else none := by
  have td := rd_td hr h
  rw [List.length_cons] at hi
  rcases h with ⟨h0, rfl, rfl⟩ | ⟨h1, h2, ⟨w0, ws, hW, h7, hn⟩, hl, hok⟩
  · rw [parse_rows hR (by omega)]
    split
    · rename_i e
      exfalso
      have hc := seal_cut (lines_not td)
      change cut 10 (sheetL _) = _ at hc
      rw [e, hR] at hc
      have := congrArg List.length hc
      rw [linesL_eq] at this
      simp at this
      omega
    · rfl
  · have hqe : q.length = (rs.take (rs.length - 2)).length := by rw [List.length_take] at hl ⊢; omega
    have hsc : rowsSc (rs.take (rs.length - 2)) = some q := rowsSc_ok hqe fun j hj => hok j (by omega) hj
    have hp := parse_all hR (by omega) hW h7 hn hsc
    have e : headOf (l7 a) q = pl7 a q := rfl
    rw [e] at hp
    unfold parseL; rw [hp]
set_option maxHeartbeats 8000000 in
theorem rread_pure (s : List UInt8) (hs : s.length ≤ 900) : APure Tryz.prog 54 [S s] (refAV s) := by
  refine apure_of (rs := [.cell 2 27, .tmp 3]) Tryz.func54 rfl rfl (Nat.le_of_ble_eq_true rfl) (by simp [AV.pureL, AV.pureB, AV.pureE, pureE_map]) (refAV_pure s) fun e0 he0 => ?_
  refine aw_seq (aw_region ?_)
  refine sq_alloc rfl z27 ?_
  refine asr (lr _) rfl ?_
  refine sq_nil (aw_seq (aw_region ?_))
  refine sq_alloc rfl z27 ?_
  refine sq_nil (aw_seq (aw_region ?_))
  refine mvr (lr _) rfl ?_
  refine sq_ev rfl (ev_call en119 (lr _) (rsplit10 s (by omega)) ⟨lr _, lr _, trivial⟩) ?_
  refine ass rfl (lr _) ?_
  refine sq_nil (aw_seq (aw_seq ?_))
  generalize hR : cut 10 s = R
  have hRl := cut_len 10 s
  have hRm := cut_mem 10 s
  rw [hR] at hRl hRm
  obtain ⟨r0, rs, rfl⟩ : ∃ r0 rs, R = r0 :: rs := by cases R with | nil => simp at hRl | cons a l => exact ⟨a, l, rfl⟩
  have hrs9 : rs.length ≤ s.length := by have h := hRl.1; rw [List.length_cons] at h; omega
  refine aw_region ?_
  refine asr (lr _) rfl ?_
  refine sq_nil (aw_block ?_)
  refine aw_sub (sub_token_cell 1 5 [I 0, I 0, I 0, I 0, I 0, I 0, I 0] [] rfl) ?_
  refine aw_loopk (ι := { x : Nat × I7 × List Sc // x.1 ≤ rs.length + 1 ∧ RdInv r0 rs x.1 x.2.1 x.2.2 }) [0, 2, 4, 5] (fun x => [(6, I x.1.1)]) (fun H x => (H.set 1 (.cells [I x.1.2.1.1, I x.1.2.1.2.1, I x.1.2.1.2.2.1, I x.1.2.1.2.2.2.1, I x.1.2.1.2.2.2.2.1, I x.1.2.1.2.2.2.2.2.1, I x.1.2.1.2.2.2.2.2.2, .own 2 5 (x.1.2.2.map sc)])).set 2 (.tok (x.1.2.2.map sc).length)) (fun x => rs.length + 1 - x.1.1) (⟨(0, (0, 0, 0, 0, 0, 0, 0), []), Nat.zero_le _, .inl ⟨rfl, rfl, rfl⟩⟩) ⟨lr _, lr _, lr _, lr _, lr _, trivial⟩ rfl ?_
  rintro ⟨⟨i, ⟨a1, a2, a3, a4, a5, a6, a7⟩, q⟩, hi, hinv⟩
  dsimp only [keepS, St.put, sget, slotsOf, List.map_cons, List.map_nil, List.cons_append, List.nil_append, List.length_cons, List.length_nil, Nat.reduceBEq, Nat.reduceAdd, cond_true, cond_false]
  simp only at hi hinv
  have hql : q.length ≤ rs.length := by
      rcases hinv with ⟨_, _, h⟩ | ⟨_, _, _, h, _⟩
      · subst h; simp
      · rw [List.length_take] at h; omega
  refine aw_seq (aw_seq (aw_region ?_))
  refine mvr (lr _) rfl ?_
  refine mvs rfl (lr _) ?_
  refine sq_ev rfl (ev_len_map sl138 (lr _)) ?_
  refine sq_ev rfl (ev_sub (lr _) (lr _) (wr (by omega) (by omega))) ?_
  refine sq_ev rfl (ev_lss (lr _) (lr _)) ?_
  refine sq_nil ?_
  refine aw_cond (lr _) (fun c1 => ?_) (fun c1 => ?_)
  · skip
    have c1' := c1
    try simp only [qq] at c1'
    refine aw_skip (aw_seq (aw_block (aw_seq ?_)))
    have hir : i < (r0 :: rs).length := by omega
    have hi2 : i + 1 < rs.length := by have := c1'; rw [List.length_cons] at this; omega
    refine aw_region ?_
    refine mvs rfl (lr _) ?_
    refine mvr (lr _) rfl ?_
    refine sq_ev rfl (ev_index_map sl138 (lr _) (lr _) rfl (by omega)) ?_
    refine sq_ev rfl (ev_load_i (lr _) ty9 rfl) ?_
    refine sq_ev rfl (ev_call en119 (lr _) (rsplit32 (r0 :: rs)[i] (by have := hRm _ (List.getElem_mem hir); omega)) ⟨lr _, lr _, trivial⟩) ?_
    refine ass rfl (lr _) ?_
    refine sq_nil (aw_seq (aw_seq ?_))
    generalize hW : cut 32 (r0 :: rs)[i] = W
    have hwl := cut_mem 32 (r0 :: rs)[i]
    have hwl2 := (cut_len 32 (r0 :: rs)[i]).1
    have hwl3 := (cut_len 32 (r0 :: rs)[i]).2
    rw [hW] at hwl hwl2 hwl3
    have hrm := hRm _ (List.getElem_mem hir)
    refine aw_region ?_
    refine mvr (lr _) rfl ?_
    refine sq_ev rfl (ev_eql (lr _) (lr _)) ?_
    refine sq_nil ?_
    refine aw_cond (lr _) (fun c2 => ?_) (fun c2 => ?_)
    · skip
      have c2' := c2
      try simp only [qq] at c2'
      refine aw_seq ?_
      obtain rfl : i = 0 := by omega
      obtain ⟨ha, hq⟩ : ((a1, a2, a3, a4, a5, a6, a7) : I7) = (0, 0, 0, 0, 0, 0, 0) ∧ q = [] := by
        rcases hinv with ⟨_, h1, h2⟩ | ⟨h1, _⟩
        · exact ⟨h1, h2⟩
        · omega
      simp only [Prod.mk.injEq] at ha
      obtain ⟨rfl, rfl, rfl, rfl, rfl, rfl, rfl⟩ := ha
      subst hq
      have hW0 : cut 32 r0 = W := hW
      obtain ⟨w0, ws, rfl⟩ : ∃ w0 ws, W = w0 :: ws := by cases W with | nil => simp at hwl3 | cons a l => exact ⟨a, l, rfl⟩
      refine aw_region ?_
      refine mvs rfl (lr _) ?_
      refine sq_ev rfl (ev_less (ev_slice sl138 (lr _) (lr _) rfl (by simp) (by simp)) (Less.eq (b := .sl 1 (ws.map fun p => [S p])) (by simp [List.take_of_length_le]))) ?_
      refine sq_ev rfl (ev_call en120 (lr _) (rnumbers_pure ws (by have := hwl2; simp only [List.length_cons] at this; omega) (fun w hw => by have := hwl w (List.mem_cons_of_mem _ hw); omega)) ⟨lr _, lr _, trivial⟩) ?_
      refine sq_ev rfl (ev_mv (v := .tup _) (lr _)) ?_
      refine xtr rfl (lr _) rfl ?_
      refine xtr rfl (lr _) rfl ?_
      refine ass rfl (lr _) ?_
      refine asr (lr _) rfl ?_
      refine sq_nil (aw_seq (aw_seq (aw_region ?_)))
      refine mvr (lr _) rfl ?_
      refine sq_ev rfl (ev_not (lr _)) ?_
      refine mvr (lr _) rfl ?_
      refine sq_split 39 (lr _) (fun g3 => ?_) (fun g3 => ?_)
      · skip
        have g3' := g3
        try simp only [qq] at g3'
        have hpn : parseL s = none := parse_nums hR hW0 (none_of (by simpa using g3))
        refine sq_no rfl rfl (less_b g3) rfl rfl ?_
        refine sq_no rfl rfl (less_b g3) rfl rfl ?_
        refine sq_no rfl rfl (less_b g3) rfl rfl ?_
        refine sq_ev rfl (ev_pickT (v := .raw _) (less_b g3) (lr _)) ?_
        refine sq_nil ?_
        refine aw_true (lr _) ?_
        refine aw_seq (aw_region ?_)
        refine sq_ev rfl (ev_build bi27 rfl) ?_
        refine sq_store rfl (lr _) (lr _) rfl rfl ty27 rfl rfl ?_
        refine asr (lr _) rfl ?_
        refine sq_nil (aw_ret ?_)
        exact retQ_res (vs := [.agg _, .raw _]) rfl rfl ⟨resVar_cell rfl rfl ty27 rfl, resVar_tmp _ _ _, trivial⟩ (Less.trans (b := .tup [plan pl0, B false]) (less_tup ⟨less_pl0, lr _, trivial⟩) (Less.eq (ref_no hpn).symm))
      · skip
        have g3' := g3
        try simp only [qq] at g3'
        obtain ⟨ns, hns⟩ := Option.isSome_iff_exists.1 (show (numsOf ws).isSome = true by simpa using g3)
        have hnv : numsV ws = ns := by simp [numsV, hns]
        have hnl := (numsOf_bds hns).1
        rw [hnv]
        refine sq_yes rfl rfl (less_b g3) rfl (ev_mv (v := .sl _ _) (lr _)) ?_
        refine sq_yes rfl rfl (less_b g3) rfl (ev_len_map sl34 (lr _)) ?_
        refine sq_yes rfl rfl (less_b g3) rfl (ev_neq (lr _) (lr _)) ?_
        refine sq_ev rfl (ev_pickF (v := .raw _) (less_b g3) (lr _)) ?_
        refine sq_nil ?_
        refine aw_cond (lr _) (fun c4 => ?_) (fun c4 => ?_)
        · skip
          have c4' := c4
          try simp only [qq] at c4'
          have hpn : parseL s = none := parse_head hR (by rw [hW0, List.length_cons]; omega)
          refine aw_seq (aw_region ?_)
          refine sq_ev rfl (ev_build bi27 rfl) ?_
          refine sq_store rfl (lr _) (lr _) rfl rfl ty27 rfl rfl ?_
          refine asr (lr _) rfl ?_
          refine sq_nil (aw_ret ?_)
          exact retQ_res (vs := [.agg _, .raw _]) rfl rfl ⟨resVar_cell rfl rfl ty27 rfl, resVar_tmp _ _ _, trivial⟩ (Less.trans (b := .tup [plan pl0, B false]) (less_tup ⟨less_pl0, lr _, trivial⟩) (Less.eq (ref_no hpn).symm))
        · skip
          have c4' := c4
          try simp only [qq] at c4'
          obtain ⟨b1, b2, b3, b4, b5, b6, b7, rfl⟩ := seven (l := ns) (by omega)
          refine aw_skip (aw_seq ?_)
          refine aw_drawc [] [25, 28, 31, 33] _ mo (by kernel_rfl) (HSub.mask [1] 0 _) ?_
          refine dc_ev rfl (ev_mv (v := .sl _ _) (lr _)) ?_
          refine dc_ev rfl (ev_index_map (k := 0) sl34 (lr _) (lr _) rfl (by simp)) ?_
          refine dc_ev rfl (ev_load_i (lr _) ty3 rfl) ?_
          refine dc_ev rfl (ev_mv (v := .sl _ _) (lr _)) ?_
          refine dc_ev rfl (ev_index_map (k := 1) sl34 (lr _) (lr _) rfl (by simp)) ?_
          refine dc_ev rfl (ev_load_i (lr _) ty3 rfl) ?_
          refine dc_ev rfl (ev_mv (v := .sl _ _) (lr _)) ?_
          refine dc_ev rfl (ev_index_map (k := 2) sl34 (lr _) (lr _) rfl (by simp)) ?_
          refine dc_ev rfl (ev_load_i (lr _) ty3 rfl) ?_
          refine dc_ev rfl (ev_build bi23 rfl) ?_
          refine dc_ev rfl (ev_mv (v := .sl _ _) (lr _)) ?_
          refine dc_ev rfl (ev_index_map (k := 3) sl34 (lr _) (lr _) rfl (by simp)) ?_
          refine dc_ev rfl (ev_load_i (lr _) ty3 rfl) ?_
          refine dc_ev rfl (ev_mv (v := .sl _ _) (lr _)) ?_
          refine dc_ev rfl (ev_index_map (k := 4) sl34 (lr _) (lr _) rfl (by simp)) ?_
          refine dc_ev rfl (ev_load_i (lr _) ty3 rfl) ?_
          refine dc_ev rfl (ev_build bi23 rfl) ?_
          refine dc_ev rfl (ev_mv (v := .sl _ _) (lr _)) ?_
          refine dc_ev rfl (ev_index_map (k := 5) sl34 (lr _) (lr _) rfl (by simp)) ?_
          refine dc_ev rfl (ev_load_i (lr _) ty3 rfl) ?_
          refine dc_ev rfl (ev_mv (v := .sl _ _) (lr _)) ?_
          refine dc_ev rfl (ev_index_map (k := 6) sl34 (lr _) (lr _) rfl (by simp)) ?_
          refine dc_ev rfl (ev_load_i (lr _) ty3 rfl) ?_
          refine dc_ev rfl (ev_build bi23 rfl) ?_
          refine dc_ev rfl (ev_fieldAddr fo27_0 (lr _)) ?_
          refine dc_eff rfl rfl (eff_store rfl (lr _) (lr _) rfl rfl ty3 rfl rfl) (by apply HL.sub; repeat' (first | exact HL.nil _ | apply HL.same | apply HL.tok)) ?_
          refine dc_ev rfl (ev_fieldAddr fo27_1 (lr _)) ?_
          refine dc_ev rfl (ev_index_box ar24 (lr _) (lr _) rfl (by decide)) ?_
          refine dc_eff rfl rfl (eff_store rfl (lr _) (lr _) rfl rfl ty23 rfl rfl) (by apply HL.sub; repeat' (first | exact HL.nil _ | apply HL.same | apply HL.tok)) ?_
          refine dc_ev rfl (ev_fieldAddr fo27_1 (lr _)) ?_
          refine dc_ev rfl (ev_index_box ar24 (lr _) (lr _) rfl (by decide)) ?_
          refine dc_eff rfl rfl (eff_store rfl (lr _) (lr _) rfl rfl ty23 rfl rfl) (by apply HL.sub; repeat' (first | exact HL.nil _ | apply HL.same | apply HL.tok)) ?_
          refine dc_ev rfl (ev_fieldAddr fo27_2 (lr _)) ?_
          refine dc_eff rfl rfl (eff_store rfl (lr _) (lr _) rfl rfl ty23 rfl rfl) (by apply HL.sub; repeat' (first | exact HL.nil _ | apply HL.same | apply HL.tok)) ?_
          refine dc_nil (aw_exit (aw_region ?_))
          refine mvr (lr _) rfl ?_
          refine sq_ev rfl (ev_add (lr _) (lr _) (wr (by omega) (by omega))) ?_
          refine asr (lr _) rfl ?_
          refine sq_nil ?_
          exact ⟨⟨(1, (b1, b2, b3, b4, b5, b6, b7), []), by simp only; omega, .inr ⟨rfl, by omega, ⟨w0, ws, hW0, by simpa using hnl.symm, hns⟩, by simp, fun j h => by simp at h⟩⟩, by simp only; omega, Sub.fin 3 ⟨lr _, lr _, lr _, lr _, lr _, trivial⟩ rfl (by simp [slotsIn, objsIn, sget, keepS, AObj.inB, AV.inB, AV.inL, AV.inE, inE_map, inE_ints, inE_sc, -List.map_append, -List.map_take, -List.map_map]) (by simp [slotsIn, objsIn, sget, keepS, AObj.inB, AV.inB, AV.inL, AV.inE, inE_map, inE_ints, inE_sc, -List.map_append, -List.map_take, -List.map_map]) (by simp [he0])⟩
    · skip
      have c2' := c2
      try simp only [qq] at c2'
      refine aw_skip (aw_seq (aw_seq ?_))
      obtain ⟨hiq, hrs2, hex, hql2, hok⟩ := hinv.resolve_left (by omega)
      have hk : q.length < (rs.take (rs.length - 2)).length := by rw [List.length_take]; omega
      have hr : (rs.take (rs.length - 2))[q.length] = (r0 :: rs)[i] := by subst hiq; simp [List.getElem_take]
      refine aw_region ?_
      refine mvs rfl (lr _) ?_
      refine sq_ev rfl (ev_len_map sl138 (lr _)) ?_
      refine sq_ev rfl (ev_neq (lr _) (lr _)) ?_
      refine sq_nil ?_
      refine aw_cond (lr _) (fun c5 => ?_) (fun c5 => ?_)
      · skip
        have c5' := c5
        try simp only [qq] at c5'
        have hpn : parseL s = none := parse_scs hR (rowsSc_bad hk (hr ▸ rowSc_len (by rw [hW]; omega)))
        refine aw_seq (aw_region ?_)
        refine sq_ev rfl (ev_build bi27 rfl) ?_
        refine sq_store rfl (lr _) (lr _) rfl rfl ty27 rfl rfl ?_
        refine asr (lr _) rfl ?_
        refine sq_nil (aw_ret ?_)
        exact retQ_res (vs := [.agg _, .raw _]) rfl rfl ⟨resVar_cell rfl rfl ty27 rfl, resVar_tmp _ _ _, trivial⟩ (Less.trans (b := .tup [plan pl0, B false]) (less_tup ⟨less_pl0, lr _, trivial⟩) (Less.eq (ref_no hpn).symm))
      · skip
        have c5' := c5
        try simp only [qq] at c5'
        refine aw_skip (aw_seq ?_)
        obtain ⟨w0, w1, w2, w3, w4, rfl⟩ : ∃ w0 w1 w2 w3 w4, W = [w0, w1, w2, w3, w4] := five (by omega)
        refine aw_region ?_
        refine mvs rfl (lr _) ?_
        refine sq_ev rfl (ev_less (ev_slice (lo := 1) (hi := 4) sl138 (lr _) (lr _) (lr _) (by simp) (by simp)) (Less.eq (b := .sl 1 ([w1, w2, w3].map fun p => [S p])) rfl)) ?_
        refine sq_ev rfl (ev_call en120 (lr _) (rnumbers_pure [w1, w2, w3] (by simp) (fun w hw => by have := hwl w (by simp only [List.mem_cons, List.not_mem_nil, or_false] at hw ⊢; rcases hw with h | h | h <;> simp [h]); omega)) ⟨lr _, lr _, trivial⟩) ?_
        refine sq_ev rfl (ev_mv (v := .tup _) (lr _)) ?_
        refine xtr rfl (lr _) rfl ?_
        refine xtr rfl (lr _) rfl ?_
        refine ass rfl (lr _) ?_
        refine asr (lr _) rfl ?_
        refine sq_nil (aw_seq (aw_seq (aw_region ?_)))
        refine mvr (lr _) rfl ?_
        refine sq_ev rfl (ev_not (lr _)) ?_
        refine sq_nil ?_
        refine aw_cond (lr _) (fun c6 => ?_) (fun c6 => ?_)
        · skip
          have c6' := c6
          try simp only [qq] at c6'
          have hpn : parseL s = none := parse_scs hR (rowsSc_bad hk (hr ▸ rowSc_n3 hW (none_of (by simpa using c6))))
          refine aw_seq (aw_region ?_)
          refine sq_ev rfl (ev_build bi27 rfl) ?_
          refine sq_store rfl (lr _) (lr _) rfl rfl ty27 rfl rfl ?_
          refine asr (lr _) rfl ?_
          refine sq_nil (aw_ret ?_)
          exact retQ_res (vs := [.agg _, .raw _]) rfl rfl ⟨resVar_cell rfl rfl ty27 rfl, resVar_tmp _ _ _, trivial⟩ (Less.trans (b := .tup [plan pl0, B false]) (less_tup ⟨less_pl0, lr _, trivial⟩) (Less.eq (ref_no hpn).symm))
        · skip
          have c6' := c6
          try simp only [qq] at c6'
          obtain ⟨ns, hns⟩ := Option.isSome_iff_exists.1 (show (numsOf [w1, w2, w3]).isSome = true by simpa using c6)
          obtain ⟨n1, n2, n3, rfl, h1, h2, h3⟩ := nums3 hns
          have hnv : numsV [w1, w2, w3] = [n1, n2, n3] := by simp [numsV, hns]
          refine aw_skip (aw_seq ?_)
          simp only [hnv]
          refine aw_drawc [14] [15] _ mo (by kernel_rfl) (HSub.refl _) ?_
          refine dc_ev rfl (ev_mv (v := .sl _ _) (lr _)) ?_
          refine dc_ev rfl (ev_index_map (k := 0) sl34 (lr _) (lr _) rfl (by simp)) ?_
          refine dc_ev rfl (ev_load_i (lr _) ty3 rfl) ?_
          refine dc_ev rfl (ev_mv (v := .sl _ _) (lr _)) ?_
          refine dc_ev rfl (ev_index_map (k := 1) sl34 (lr _) (lr _) rfl (by simp)) ?_
          refine dc_ev rfl (ev_load_i (lr _) ty3 rfl) ?_
          refine dc_ev rfl (ev_mv (v := .sl _ _) (lr _)) ?_
          refine dc_ev rfl (ev_index_map (k := 2) sl34 (lr _) (lr _) rfl (by simp)) ?_
          refine dc_ev rfl (ev_load_i (lr _) ty3 rfl) ?_
          refine dc_ev rfl (ev_mv (v := .sl _ _) (lr _)) ?_
          refine dc_ev rfl (ev_index_map (k := 0) sl138 (lr _) (lr _) rfl (by simp)) ?_
          refine dc_ev rfl (ev_load_i (lr _) ty9 rfl) ?_
          refine dc_ev rfl (ev_seqS (lr _) (lr _)) ?_
          refine dc_ev rfl (ev_build bi84 rfl) ?_
          refine dc_alloc rfl rfl z84 ?_
          refine dc_eff rfl rfl (eff_store rfl (lr _) (lr _) rfl rfl ty84 rfl rfl) (by apply HL.sub; repeat' (first | exact HL.nil _ | apply HL.same | apply HL.tok)) ?_
          refine dc_nil (aw_seq (aw_seq (aw_region ?_)))
          refine mvs rfl (lr _) ?_
          refine sq_ev rfl (ev_index_map (k := 4) sl138 (lr _) (lr _) rfl (by simp)) ?_
          refine sq_ev rfl (ev_load_i (lr _) ty9 rfl) ?_
          refine sq_ev rfl (ev_sneS (lr _) (lr _)) ?_
          refine sq_nil ?_
          refine aw_cond (lr _) (fun c7 => ?_) (fun c7 => ?_)
          · skip
            have c7' := c7
            try simp only [qq] at c7'
            refine aw_seq (aw_region ?_)
            refine mvs rfl (lr _) ?_
            refine sq_ev rfl (ev_index_map (k := 4) sl138 (lr _) (lr _) rfl (by simp)) ?_
            refine sq_ev rfl (ev_load_i (lr _) ty9 rfl) ?_
            refine sq_ev rfl (ev_call en121 (lr _) (rnumber_pure w4 (by have := hwl w4 (by simp); omega)) ⟨lr _, lr _, trivial⟩) ?_
            refine sq_ev rfl (ev_mv (v := .tup _) (lr _)) ?_
            refine xtr rfl (lr _) rfl ?_
            refine xtr rfl (lr _) rfl ?_
            refine asr (lr _) rfl ?_
            refine asr (lr _) rfl ?_
            refine sq_nil (aw_seq (aw_seq (aw_region ?_)))
            refine mvr (lr _) rfl ?_
            refine sq_ev rfl (ev_not (lr _)) ?_
            refine sq_nil ?_
            refine aw_cond (lr _) (fun c8 => ?_) (fun c8 => ?_)
            · skip
              have c8' := c8
              try simp only [qq] at c8'
              have hn4 : numOf w4 = none := (num_cases w4).elim (fun h => by obtain ⟨n, h⟩ := h; rw [numQ_some h] at c8'; cases c8') id
              have hpn : parseL s = none := parse_scs hR (rowsSc_bad hk (hr ▸ rowSc_4 hW (by simpa using c7) hn4))
              refine aw_seq (aw_region ?_)
              refine sq_ev rfl (ev_build bi27 rfl) ?_
              refine sq_store rfl (lr _) (lr _) rfl rfl ty27 rfl rfl ?_
              refine asr (lr _) rfl ?_
              refine sq_nil (aw_ret ?_)
              exact retQ_res (vs := [.agg _, .raw _]) rfl rfl ⟨resVar_cell rfl rfl ty27 rfl, resVar_tmp _ _ _, trivial⟩ (Less.trans (b := .tup [plan pl0, B false]) (less_tup ⟨less_pl0, lr _, trivial⟩) (Less.eq (ref_no hpn).symm))
            · skip
              have c8' := c8
              try simp only [qq] at c8'
              obtain ⟨n4, hn4⟩ : ∃ n, numOf w4 = some n := (num_cases w4).elim id (fun h => by rw [numQ_none h] at c8'; cases c8')
              have hnq := numQ_some hn4
              obtain ⟨x, hx, hxe⟩ : ∃ x, rowSc ((r0 :: rs)[i]) = some x ∧ x = ⟨n1, n2, n3, decide (w0 = wBattle), n4⟩ := ⟨_, rowSc_yes hW h1 h2 h3 (by rw [if_neg (by simpa using c7)]; exact hn4), rfl⟩
              have eS : ((q ++ [x]).map sc) = q.map sc ++ [[I n1, I n2, I n3, B (decide (w0 = wBattle)), I (n4)]] := by rw [hxe]; simp
              refine aw_skip ?_
              simp only [hnq]
              refine aw_region ?_
              refine mvr (lr _) rfl ?_
              refine sq_ev rfl (ev_fieldAddr fo84_4 (lr _)) ?_
              refine sq_store rfl (lr _) (lr _) rfl rfl ty3 rfl rfl ?_
              refine sq_nil (aw_region ?_)
              refine sq_ev rfl (ev_fieldAddr fo27_3 (lr _)) ?_
              refine sq_ev rfl (ev_load (lr _) rfl ty25 rfl) ?_
              refine sq_ev rfl (ev_load_agg (lr _) rfl ty84 rfl) ?_
              refine sq_ev rfl (ev_buildSlice (es := [[_, _, _, _, _]]) sf25 rfl rfl rfl rfl) ?_
              refine sq_append rfl sf25 Tryz.underlying25 rfl rfl (less_slx _ _) (Nat.succ_pos _) (by simp; omega) (by simp; omega) ?_
              refine sq_ev rfl (ev_fieldAddr fo27_3 (lr _)) ?_
              refine sq_store rfl (lr _) (lr _) rfl rfl ty25 rfl rfl ?_
              refine sq_nil (aw_region ?_)
              refine mvr (lr _) rfl ?_
              refine sq_ev rfl (ev_add (lr _) (lr _) (wr (by omega) (by omega))) ?_
              refine asr (lr _) rfl ?_
              refine sq_nil ?_
              exact ⟨⟨(i + 1, (a1, a2, a3, a4, a5, a6, a7), q ++ [x]), by simp only; omega, .inr ⟨by simp [hiq], hrs2, hex, by simp; omega, okq hok hr hx⟩⟩, by simp only; omega, Sub.fin 3 ⟨lr _, lr _, lr _, lr _, lr _, trivial⟩ (congrArg (fun L => [_, AObj.cells ([I a1, I a2, I a3, I a4, I a5, I a6, I a7] ++ [AV.own 2 5 L]), AObj.tok L.length]) eS.symm) (by simp [slotsIn, objsIn, sget, keepS, AObj.inB, AV.inB, AV.inL, AV.inE, inE_map, inE_ints, inE_sc, -List.map_append, -List.map_take, -List.map_map]) (by simp [slotsIn, objsIn, sget, keepS, AObj.inB, AV.inB, AV.inL, AV.inE, inE_map, inE_ints, inE_sc, -List.map_append, -List.map_take, -List.map_map]) (by simp [he0])⟩
          · skip
            have c7' := c7
            try simp only [qq] at c7'
            obtain ⟨x, hx, hxe⟩ : ∃ x, rowSc ((r0 :: rs)[i]) = some x ∧ x = ⟨n1, n2, n3, decide (w0 = wBattle), -1⟩ := ⟨_, rowSc_yes hW h1 h2 h3 (by rw [if_pos (by simpa using c7)]), rfl⟩
            have eS : ((q ++ [x]).map sc) = q.map sc ++ [[I n1, I n2, I n3, B (decide (w0 = wBattle)), I (-1)]] := by rw [hxe]; simp
            refine aw_skip (aw_region ?_)
            refine sq_ev rfl (ev_fieldAddr fo27_3 (lr _)) ?_
            refine sq_ev rfl (ev_load (lr _) rfl ty25 rfl) ?_
            refine sq_ev rfl (ev_load_agg (lr _) rfl ty84 rfl) ?_
            refine sq_ev rfl (ev_buildSlice (es := [[_, _, _, _, _]]) sf25 rfl rfl rfl rfl) ?_
            refine sq_append rfl sf25 Tryz.underlying25 rfl rfl (less_slx _ _) (Nat.succ_pos _) (by simp; omega) (by simp; omega) ?_
            refine sq_ev rfl (ev_fieldAddr fo27_3 (lr _)) ?_
            refine sq_store rfl (lr _) (lr _) rfl rfl ty25 rfl rfl ?_
            refine sq_nil (aw_region ?_)
            refine mvr (lr _) rfl ?_
            refine sq_ev rfl (ev_add (lr _) (lr _) (wr (by omega) (by omega))) ?_
            refine asr (lr _) rfl ?_
            refine sq_nil ?_
            exact ⟨⟨(i + 1, (a1, a2, a3, a4, a5, a6, a7), q ++ [x]), by simp only; omega, .inr ⟨by simp [hiq], hrs2, hex, by simp; omega, okq hok hr hx⟩⟩, by simp only; omega, Sub.fin 3 ⟨lr _, lr _, lr _, lr _, lr _, trivial⟩ (congrArg (fun L => [_, AObj.cells ([I a1, I a2, I a3, I a4, I a5, I a6, I a7] ++ [AV.own 2 5 L]), AObj.tok L.length]) eS.symm) (by simp [slotsIn, objsIn, sget, keepS, AObj.inB, AV.inB, AV.inL, AV.inE, inE_map, inE_ints, inE_sc, -List.map_append, -List.map_take, -List.map_map]) (by simp [slotsIn, objsIn, sget, keepS, AObj.inB, AV.inB, AV.inL, AV.inE, inE_map, inE_ints, inE_sc, -List.map_append, -List.map_take, -List.map_map]) (by simp [he0])⟩
  · skip
    have c1' := c1
    try simp only [qq] at c1'
    refine aw_exit (aw_seq (aw_seq ?_))
    have td := rd_td (by omega) hinv
    have hend := rd_end hR (by omega) hinv c1'
    have hL : Less (.agg ([I a1, I a2, I a3, I a4, I a5, I a6, I a7] ++ [.own 2 5 (q.map sc)])) (plan (pl7 (a1, a2, a3, a4, a5, a6, a7) q)) := less_agg ⟨lr _, lr _, lr _, lr _, lr _, lr _, lr _, less_own _ _ _, trivial⟩
    refine aw_region ?_
    refine sq_ev rfl (ev_load_agg (lr _) rfl ty27 rfl) ?_
    refine sq_ev rfl (ev_call en52 (lr _) (rprint_pure (pl7 (a1, a2, a3, a4, a5, a6, a7) q) (td_sm td) (td_nn td)) ⟨hL, trivial⟩) ?_
    refine mvr (lr _) rfl ?_
    refine sq_ev rfl (ev_sneS (lr _) (lr _)) ?_
    refine sq_nil ?_
    refine aw_cond (lr _) (fun c9 => ?_) (fun c9 => ?_)
    · skip
      have c9' := c9
      try simp only [qq] at c9'
      have hpn : parseL s = none := by rw [hend, if_neg (fun e => c9' (by rw [← e]))]
      refine aw_seq (aw_region ?_)
      refine sq_ev rfl (ev_build bi27 rfl) ?_
      refine sq_store rfl (lr _) (lr _) rfl rfl ty27 rfl rfl ?_
      refine asr (lr _) rfl ?_
      refine sq_nil (aw_ret ?_)
      exact retQ_res (vs := [.agg _, .raw _]) rfl rfl ⟨resVar_cell rfl rfl ty27 rfl, resVar_tmp _ _ _, trivial⟩ (Less.trans (b := .tup [plan pl0, B false]) (less_tup ⟨less_pl0, lr _, trivial⟩) (Less.eq (ref_no hpn).symm))
    · skip
      have c9' := c9
      try simp only [qq] at c9'
      have hpy : parseL s = some (pl7 (a1, a2, a3, a4, a5, a6, a7) q) := by rw [hend, if_pos (by simpa using c9')]
      refine aw_skip (aw_seq (aw_region ?_))
      refine sq_ev rfl (ev_load_agg (lr _) rfl ty27 rfl) ?_
      refine sq_store rfl (lr _) (lr _) rfl rfl ty27 rfl rfl ?_
      refine asr (lr _) rfl ?_
      refine sq_nil (aw_ret ?_)
      exact retQ_res (vs := [.agg _, .raw _]) rfl rfl ⟨resVar_cell rfl rfl ty27 rfl, resVar_tmp _ _ _, trivial⟩ (Less.trans (b := .tup [plan (pl7 (a1, a2, a3, a4, a5, a6, a7) q), B true]) (less_tup ⟨hL, lr _, trivial⟩) (Less.eq (ref_yes hpy).symm))
end Go.Proofs.YtjghdbdiejaacaaGreatDoor
namespace Go.Proofs.YtjghdbdiejaacaaGreatDoor
open Go Go.Ab Ni
theorem pl0_self : APure Tryz.prog 53 [plan pl0, plan pl0] (B true) := by have := rplans_pure pl0 pl0 (by simp [pl0]) (by simp [pl0]); simpa using this
theorem pl_self {p : Pl} (h : p.scenes.length ≤ 1000) : APure Tryz.prog 53 [plan p, plan p] (B true) := by have := rplans_pure p p (by omega) (by omega); simpa using this
theorem rd_val {s : List UInt8} {x : Pl} {e : Int} (h : readAV s = .tup [plan x, I e]) : APure Tryz.prog 51 [S s] (.tup [plan x, I e]) := by rw [← h]; exact nRead_pure s
theorem pl_val {p : Pl} {b : Bool} (hl : p.scenes.length ≤ 1000) (h : PlOK p = b) : APure Tryz.prog 24 [plan p] (B b) := by subst h; exact plan_pure p (by omega)
theorem parse_sheetL {s : List UInt8} {p : Pl} (h : parseL s = some p) : sheetL p = s := by
  unfold parseL at h
  split at h
  · split at h
    · rename_i e; simp only [Option.some.injEq] at h; subst h; exact e
    · cases h
  · cases h
theorem pt_val {p : Pl} {s : List UInt8} (hk : PlOK p = true) (h : sheetL p = s) : APure Tryz.prog 50 [plan p] (.tup [S s, I 0]) := by subst h; exact pt_yes (by have := ok_len hk; omega) hk
set_option maxHeartbeats 4000000 in
theorem law9_long (s : List UInt8) (hs : 400 < s.length) : APure Tryz.prog 9 [S s] (B true) := by
  refine apure_of (rs := [.tmp 2]) Tryz.func9 rfl rfl (Nat.le_of_ble_eq_true rfl) (by simp [AV.pureL, AV.pureB, AV.pureE, pureE_map]) (rfl) fun e0 he0 => ?_
  refine aw_seq (aw_region ?_)
  refine asr (lr _) rfl ?_
  refine sq_nil (aw_seq (aw_seq (aw_region ?_)))
  refine mvr (lr _) rfl ?_
  refine sq_ev rfl (ev_lenS Tryz.underlying9 (lr _)) ?_
  refine sq_ev rfl (ev_gtr (lr _) (lr _)) ?_
  refine sq_nil ?_
  refine aw_cond (lr _) (fun c1 => ?_) (fun c1 => ?_)
  · skip
    have c1' := c1
    try simp only [qq] at c1'
    refine aw_seq (aw_region ?_)
    refine sq_ev rfl (ev_call en21 (lr _) (known_pure) trivial) ?_
    refine asr (lr _) rfl ?_
    refine sq_nil (aw_ret ?_)
    exact retQ_pure (v := .raw _) rfl rfl (lr _)
  · skip
    have c1' := c1
    try simp only [qq] at c1'
    first | exact absurd c1 (by decide) | (simp at c1; done) | (exfalso; simp at c1; omega)
set_option maxHeartbeats 4000000 in
theorem law9_big (s : List UInt8) (x : Pl) (b : Bool) (h54 : APure Tryz.prog 54 [S s] (.tup [plan x, B b])) (h4 : ¬ 400 < s.length) (hs : 300 < s.length) (h51 : readAV s = .tup [plan pl0, I 3]) : APure Tryz.prog 9 [S s] (B true) := by
 refine apure_of (rs := [.tmp 2]) Tryz.func9 rfl rfl (Nat.le_of_ble_eq_true rfl) (by simp [AV.pureL, AV.pureB, AV.pureE, pureE_map]) (rfl) fun e0 he0 => ?_
 refine aw_seq (aw_region ?_)
 refine asr (lr _) rfl ?_
 refine sq_nil (aw_seq (aw_seq (aw_region ?_)))
 refine mvr (lr _) rfl ?_
 refine sq_ev rfl (ev_lenS Tryz.underlying9 (lr _)) ?_
 refine sq_ev rfl (ev_gtr (lr _) (lr _)) ?_
 refine sq_nil ?_
 refine aw_cond (lr _) (fun c1 => ?_) (fun c1 => ?_)
 ·
  have c1' := c1
  try simp only [qq] at c1'
  first | exact absurd c1 (by decide) | (simp at c1; done) | (exfalso; simp at c1; omega)
 ·
  have c1' := c1
  try simp only [qq] at c1'
  refine aw_skip (aw_seq (aw_region ?_))
  refine mvr (lr _) rfl ?_
  refine sq_ev rfl (ev_call en51 (lr _) (rd_val h51) ⟨lr _, trivial⟩) ?_
  refine sq_ev rfl (ev_mv (v := .tup _) (lr _)) ?_
  refine xtr rfl (lr _) rfl ?_
  refine xtr rfl (lr _) rfl ?_
  refine sq_alloc rfl z27 ?_
  refine sq_store rfl (lr _) (lr _) rfl rfl ty27 rfl rfl ?_
  refine asr (lr _) rfl ?_
  refine sq_nil (aw_seq (aw_region ?_))
  refine mvr (lr _) rfl ?_
  refine sq_ev rfl (ev_call en54 (lr _) (h54) ⟨lr _, trivial⟩) ?_
  refine sq_ev rfl (ev_mv (v := .tup _) (lr _)) ?_
  refine xtr rfl (lr _) rfl ?_
  refine xtr rfl (lr _) rfl ?_
  refine sq_alloc rfl z27 ?_
  refine sq_store rfl (lr _) (lr _) rfl rfl ty27 rfl rfl ?_
  refine asr (lr _) rfl ?_
  refine sq_nil (aw_seq (aw_region ?_))
  refine asr (lr _) rfl ?_
  refine sq_nil (aw_seq (aw_seq (aw_region ?_)))
  refine mvr (lr _) rfl ?_
  refine sq_ev rfl (ev_lenS Tryz.underlying9 (lr _)) ?_
  refine sq_ev rfl (ev_gtr (lr _) (lr _)) ?_
  refine sq_nil ?_
  refine aw_cond (lr _) (fun c2 => ?_) (fun c2 => ?_)
  ·
   have c2' := c2
   try simp only [qq] at c2'
   refine aw_region ?_
   refine asr (lr _) rfl ?_
   refine sq_nil (aw_seq (aw_seq (aw_region ?_)))
   refine mvr (lr _) rfl ?_
   refine sq_ev rfl (ev_neq (lr _) (lr _)) ?_
   refine sq_nil ?_
   refine aw_cond (lr _) (fun c3 => ?_) (fun c3 => ?_)
   ·
    have c3' := c3
    try simp only [qq] at c3'
    refine aw_seq (aw_region ?_)
    refine mvr (lr _) rfl ?_
    refine mvr (lr _) rfl ?_
    refine sq_ev rfl (ev_eql (lr _) (lr _)) ?_
    refine mvr (lr _) rfl ?_
    refine sq_split 37 (lr _) (fun g4 => ?_) (fun g4 => ?_)
    ·
     have g4' := g4
     try simp only [qq] at g4'
     refine sq_yes rfl rfl (less_b g4) rfl (ev_load_agg (lr _) rfl ty27 rfl) ?_
     refine sq_yes rfl rfl (less_b g4) rfl (ev_build bi27 rfl) ?_
     refine sq_yes rfl rfl (less_b g4) rfl (ev_call en53 (lr _) (pl0_self) ⟨lr _, less_pl0, trivial⟩) ?_
     refine sq_ev rfl (ev_pickT (v := .raw _) (less_b g4) (lr _)) ?_
     refine mvr (lr _) rfl ?_
     refine sq_split 42 (lr _) (fun g5 => ?_) (fun g5 => ?_)
     ·
      have g5' := g5
      try simp only [qq] at g5'
      refine sq_yes rfl rfl (less_b g5) rfl (ev_call en21 (lr _) (known_pure) trivial) ?_
      refine sq_ev rfl (ev_pickT (v := .raw _) (less_b g5) (lr _)) ?_
      refine asr (lr _) rfl ?_
      refine sq_nil (aw_ret ?_)
      exact retQ_pure (v := .raw _) rfl rfl (lr _)
     ·
      have g5' := g5
      try simp only [qq] at g5'
      first | exact absurd g5 (by decide) | (simp at g5; done) | (exfalso; simp at g5; omega)
    ·
     have g4' := g4
     try simp only [qq] at g4'
     first | exact absurd g4 (by decide) | (simp at g4; done) | (exfalso; simp at g4; omega)
   ·
    have c3' := c3
    try simp only [qq] at c3'
    first | exact absurd c3 (by decide) | (simp at c3; done) | (exfalso; simp at c3; omega)
  ·
   have c2' := c2
   try simp only [qq] at c2'
   first | exact absurd c2 (by decide) | (simp at c2; done) | (exfalso; simp at c2; omega)
set_option maxHeartbeats 4000000 in
theorem law9_none (s : List UInt8) (h54 : APure Tryz.prog 54 [S s] (.tup [plan pl0, B false])) (hs : ¬ 300 < s.length) (h51 : readAV s = .tup [plan pl0, I 4]) : APure Tryz.prog 9 [S s] (B true) := by
 refine apure_of (rs := [.tmp 2]) Tryz.func9 rfl rfl (Nat.le_of_ble_eq_true rfl) (by simp [AV.pureL, AV.pureB, AV.pureE, pureE_map]) (rfl) fun e0 he0 => ?_
 refine aw_seq (aw_region ?_)
 refine asr (lr _) rfl ?_
 refine sq_nil (aw_seq (aw_seq (aw_region ?_)))
 refine mvr (lr _) rfl ?_
 refine sq_ev rfl (ev_lenS Tryz.underlying9 (lr _)) ?_
 refine sq_ev rfl (ev_gtr (lr _) (lr _)) ?_
 refine sq_nil ?_
 refine aw_cond (lr _) (fun c1 => ?_) (fun c1 => ?_)
 ·
  have c1' := c1
  try simp only [qq] at c1'
  first | exact absurd c1 (by decide) | (simp at c1; done) | (exfalso; simp at c1; omega)
 ·
  have c1' := c1
  try simp only [qq] at c1'
  refine aw_skip (aw_seq (aw_region ?_))
  refine mvr (lr _) rfl ?_
  refine sq_ev rfl (ev_call en51 (lr _) (rd_val h51) ⟨lr _, trivial⟩) ?_
  refine sq_ev rfl (ev_mv (v := .tup _) (lr _)) ?_
  refine xtr rfl (lr _) rfl ?_
  refine xtr rfl (lr _) rfl ?_
  refine sq_alloc rfl z27 ?_
  refine sq_store rfl (lr _) (lr _) rfl rfl ty27 rfl rfl ?_
  refine asr (lr _) rfl ?_
  refine sq_nil (aw_seq (aw_region ?_))
  refine mvr (lr _) rfl ?_
  refine sq_ev rfl (ev_call en54 (lr _) (h54) ⟨lr _, trivial⟩) ?_
  refine sq_ev rfl (ev_mv (v := .tup _) (lr _)) ?_
  refine xtr rfl (lr _) rfl ?_
  refine xtr rfl (lr _) rfl ?_
  refine sq_alloc rfl z27 ?_
  refine sq_store rfl (lr _) (lr _) rfl rfl ty27 rfl rfl ?_
  refine asr (lr _) rfl ?_
  refine sq_nil (aw_seq (aw_region ?_))
  refine asr (lr _) rfl ?_
  refine sq_nil (aw_seq (aw_seq (aw_region ?_)))
  refine mvr (lr _) rfl ?_
  refine sq_ev rfl (ev_lenS Tryz.underlying9 (lr _)) ?_
  refine sq_ev rfl (ev_gtr (lr _) (lr _)) ?_
  refine sq_nil ?_
  refine aw_cond (lr _) (fun c2 => ?_) (fun c2 => ?_)
  ·
   have c2' := c2
   try simp only [qq] at c2'
   first | exact absurd c2 (by decide) | (simp at c2; done) | (exfalso; simp at c2; omega)
  ·
   have c2' := c2
   try simp only [qq] at c2'
   refine aw_seq (aw_region ?_)
   refine mvr (lr _) rfl ?_
   refine sq_ev rfl (ev_not (lr _)) ?_
   refine sq_nil ?_
   refine aw_cond (lr _) (fun c3 => ?_) (fun c3 => ?_)
   ·
    have c3' := c3
    try simp only [qq] at c3'
    refine aw_region ?_
    refine asr (lr _) rfl ?_
    refine sq_nil (aw_seq (aw_seq (aw_region ?_)))
    refine mvr (lr _) rfl ?_
    refine sq_ev rfl (ev_neq (lr _) (lr _)) ?_
    refine sq_nil ?_
    refine aw_cond (lr _) (fun c4 => ?_) (fun c4 => ?_)
    ·
     have c4' := c4
     try simp only [qq] at c4'
     refine aw_seq (aw_region ?_)
     refine mvr (lr _) rfl ?_
     refine mvr (lr _) rfl ?_
     refine sq_ev rfl (ev_eql (lr _) (lr _)) ?_
     refine mvr (lr _) rfl ?_
     refine sq_split 37 (lr _) (fun g5 => ?_) (fun g5 => ?_)
     ·
      have g5' := g5
      try simp only [qq] at g5'
      refine sq_yes rfl rfl (less_b g5) rfl (ev_load_agg (lr _) rfl ty27 rfl) ?_
      refine sq_yes rfl rfl (less_b g5) rfl (ev_build bi27 rfl) ?_
      refine sq_yes rfl rfl (less_b g5) rfl (ev_call en53 (lr _) (pl0_self) ⟨lr _, less_pl0, trivial⟩) ?_
      refine sq_ev rfl (ev_pickT (v := .raw _) (less_b g5) (lr _)) ?_
      refine mvr (lr _) rfl ?_
      refine sq_split 42 (lr _) (fun g6 => ?_) (fun g6 => ?_)
      ·
       have g6' := g6
       try simp only [qq] at g6'
       refine sq_yes rfl rfl (less_b g6) rfl (ev_call en21 (lr _) (known_pure) trivial) ?_
       refine sq_ev rfl (ev_pickT (v := .raw _) (less_b g6) (lr _)) ?_
       refine asr (lr _) rfl ?_
       refine sq_nil (aw_ret ?_)
       exact retQ_pure (v := .raw _) rfl rfl (lr _)
      ·
       have g6' := g6
       try simp only [qq] at g6'
       first | exact absurd g6 (by decide) | (simp at g6; done) | (exfalso; simp at g6; omega)
     ·
      have g5' := g5
      try simp only [qq] at g5'
      first | exact absurd g5 (by decide) | (simp at g5; done) | (exfalso; simp at g5; omega)
    ·
     have c4' := c4
     try simp only [qq] at c4'
     first | exact absurd c4 (by decide) | (simp at c4; done) | (exfalso; simp at c4; omega)
   ·
    have c3' := c3
    try simp only [qq] at c3'
    first | exact absurd c3 (by decide) | (simp at c3; done) | (exfalso; simp at c3; omega)
set_option maxHeartbeats 4000000 in
theorem law9_bad (s : List UInt8) (p : Pl) (h54 : APure Tryz.prog 54 [S s] (.tup [plan p, B true])) (hs : ¬ 300 < s.length) (hl : p.scenes.length ≤ 1000) (h51 : readAV s = .tup [plan pl0, I 2]) (hk : PlOK p = false) : APure Tryz.prog 9 [S s] (B true) := by
 refine apure_of (rs := [.tmp 2]) Tryz.func9 rfl rfl (Nat.le_of_ble_eq_true rfl) (by simp [AV.pureL, AV.pureB, AV.pureE, pureE_map]) (rfl) fun e0 he0 => ?_
 refine aw_seq (aw_region ?_)
 refine asr (lr _) rfl ?_
 refine sq_nil (aw_seq (aw_seq (aw_region ?_)))
 refine mvr (lr _) rfl ?_
 refine sq_ev rfl (ev_lenS Tryz.underlying9 (lr _)) ?_
 refine sq_ev rfl (ev_gtr (lr _) (lr _)) ?_
 refine sq_nil ?_
 refine aw_cond (lr _) (fun c1 => ?_) (fun c1 => ?_)
 ·
  have c1' := c1
  try simp only [qq] at c1'
  first | exact absurd c1 (by decide) | (simp at c1; done) | (exfalso; simp at c1; omega)
 ·
  have c1' := c1
  try simp only [qq] at c1'
  refine aw_skip (aw_seq (aw_region ?_))
  refine mvr (lr _) rfl ?_
  refine sq_ev rfl (ev_call en51 (lr _) (rd_val h51) ⟨lr _, trivial⟩) ?_
  refine sq_ev rfl (ev_mv (v := .tup _) (lr _)) ?_
  refine xtr rfl (lr _) rfl ?_
  refine xtr rfl (lr _) rfl ?_
  refine sq_alloc rfl z27 ?_
  refine sq_store rfl (lr _) (lr _) rfl rfl ty27 rfl rfl ?_
  refine asr (lr _) rfl ?_
  refine sq_nil (aw_seq (aw_region ?_))
  refine mvr (lr _) rfl ?_
  refine sq_ev rfl (ev_call en54 (lr _) (h54) ⟨lr _, trivial⟩) ?_
  refine sq_ev rfl (ev_mv (v := .tup _) (lr _)) ?_
  refine xtr rfl (lr _) rfl ?_
  refine xtr rfl (lr _) rfl ?_
  refine sq_alloc rfl z27 ?_
  refine sq_store rfl (lr _) (lr _) rfl rfl ty27 rfl rfl ?_
  refine asr (lr _) rfl ?_
  refine sq_nil (aw_seq (aw_region ?_))
  refine asr (lr _) rfl ?_
  refine sq_nil (aw_seq (aw_seq (aw_region ?_)))
  refine mvr (lr _) rfl ?_
  refine sq_ev rfl (ev_lenS Tryz.underlying9 (lr _)) ?_
  refine sq_ev rfl (ev_gtr (lr _) (lr _)) ?_
  refine sq_nil ?_
  refine aw_cond (lr _) (fun c2 => ?_) (fun c2 => ?_)
  ·
   have c2' := c2
   try simp only [qq] at c2'
   first | exact absurd c2 (by decide) | (simp at c2; done) | (exfalso; simp at c2; omega)
  ·
   have c2' := c2
   try simp only [qq] at c2'
   refine aw_seq (aw_region ?_)
   refine mvr (lr _) rfl ?_
   refine sq_ev rfl (ev_not (lr _)) ?_
   refine sq_nil ?_
   refine aw_cond (lr _) (fun c3 => ?_) (fun c3 => ?_)
   ·
    have c3' := c3
    try simp only [qq] at c3'
    first | exact absurd c3 (by decide) | (simp at c3; done) | (exfalso; simp at c3; omega)
   ·
    have c3' := c3
    try simp only [qq] at c3'
    refine aw_seq (aw_region ?_)
    refine sq_ev rfl (ev_load_agg (lr _) rfl ty27 rfl) ?_
    refine sq_ev rfl (ev_call en24 (lr _) (pl_val hl hk) ⟨lr _, trivial⟩) ?_
    refine sq_ev rfl (ev_not (lr _)) ?_
    refine sq_nil ?_
    refine aw_cond (lr _) (fun c4 => ?_) (fun c4 => ?_)
    ·
     have c4' := c4
     try simp only [qq] at c4'
     refine aw_region ?_
     refine asr (lr _) rfl ?_
     refine sq_nil (aw_seq (aw_seq (aw_region ?_)))
     refine mvr (lr _) rfl ?_
     refine sq_ev rfl (ev_neq (lr _) (lr _)) ?_
     refine sq_nil ?_
     refine aw_cond (lr _) (fun c5 => ?_) (fun c5 => ?_)
     ·
      have c5' := c5
      try simp only [qq] at c5'
      refine aw_seq (aw_region ?_)
      refine mvr (lr _) rfl ?_
      refine mvr (lr _) rfl ?_
      refine sq_ev rfl (ev_eql (lr _) (lr _)) ?_
      refine mvr (lr _) rfl ?_
      refine sq_split 37 (lr _) (fun g6 => ?_) (fun g6 => ?_)
      ·
       have g6' := g6
       try simp only [qq] at g6'
       refine sq_yes rfl rfl (less_b g6) rfl (ev_load_agg (lr _) rfl ty27 rfl) ?_
       refine sq_yes rfl rfl (less_b g6) rfl (ev_build bi27 rfl) ?_
       refine sq_yes rfl rfl (less_b g6) rfl (ev_call en53 (lr _) (pl0_self) ⟨lr _, less_pl0, trivial⟩) ?_
       refine sq_ev rfl (ev_pickT (v := .raw _) (less_b g6) (lr _)) ?_
       refine mvr (lr _) rfl ?_
       refine sq_split 42 (lr _) (fun g7 => ?_) (fun g7 => ?_)
       ·
        have g7' := g7
        try simp only [qq] at g7'
        refine sq_yes rfl rfl (less_b g7) rfl (ev_call en21 (lr _) (known_pure) trivial) ?_
        refine sq_ev rfl (ev_pickT (v := .raw _) (less_b g7) (lr _)) ?_
        refine asr (lr _) rfl ?_
        refine sq_nil (aw_ret ?_)
        exact retQ_pure (v := .raw _) rfl rfl (lr _)
       ·
        have g7' := g7
        try simp only [qq] at g7'
        first | exact absurd g7 (by decide) | (simp at g7; done) | (exfalso; simp at g7; omega)
      ·
       have g6' := g6
       try simp only [qq] at g6'
       first | exact absurd g6 (by decide) | (simp at g6; done) | (exfalso; simp at g6; omega)
     ·
      have c5' := c5
      try simp only [qq] at c5'
      first | exact absurd c5 (by decide) | (simp at c5; done) | (exfalso; simp at c5; omega)
    ·
     have c4' := c4
     try simp only [qq] at c4'
     first | exact absurd c4 (by decide) | (simp at c4; done) | (exfalso; simp at c4; omega)
set_option maxHeartbeats 4000000 in
theorem law9_ok (s : List UInt8) (p : Pl) (h54 : APure Tryz.prog 54 [S s] (.tup [plan p, B true])) (hs : ¬ 300 < s.length) (hl : p.scenes.length ≤ 1000) (h51 : readAV s = .tup [plan p, I 0]) (hk : PlOK p = true) (hsh : sheetL p = s) : APure Tryz.prog 9 [S s] (B true) := by
 refine apure_of (rs := [.tmp 2]) Tryz.func9 rfl rfl (Nat.le_of_ble_eq_true rfl) (by simp [AV.pureL, AV.pureB, AV.pureE, pureE_map]) (rfl) fun e0 he0 => ?_
 refine aw_seq (aw_region ?_)
 refine asr (lr _) rfl ?_
 refine sq_nil (aw_seq (aw_seq (aw_region ?_)))
 refine mvr (lr _) rfl ?_
 refine sq_ev rfl (ev_lenS Tryz.underlying9 (lr _)) ?_
 refine sq_ev rfl (ev_gtr (lr _) (lr _)) ?_
 refine sq_nil ?_
 refine aw_cond (lr _) (fun c1 => ?_) (fun c1 => ?_)
 ·
  have c1' := c1
  try simp only [qq] at c1'
  first | exact absurd c1 (by decide) | (simp at c1; done) | (exfalso; simp at c1; omega)
 ·
  have c1' := c1
  try simp only [qq] at c1'
  refine aw_skip (aw_seq (aw_region ?_))
  refine mvr (lr _) rfl ?_
  refine sq_ev rfl (ev_call en51 (lr _) (rd_val h51) ⟨lr _, trivial⟩) ?_
  refine sq_ev rfl (ev_mv (v := .tup _) (lr _)) ?_
  refine xtr rfl (lr _) rfl ?_
  refine xtr rfl (lr _) rfl ?_
  refine sq_alloc rfl z27 ?_
  refine sq_store rfl (lr _) (lr _) rfl rfl ty27 rfl rfl ?_
  refine asr (lr _) rfl ?_
  refine sq_nil (aw_seq (aw_region ?_))
  refine mvr (lr _) rfl ?_
  refine sq_ev rfl (ev_call en54 (lr _) (h54) ⟨lr _, trivial⟩) ?_
  refine sq_ev rfl (ev_mv (v := .tup _) (lr _)) ?_
  refine xtr rfl (lr _) rfl ?_
  refine xtr rfl (lr _) rfl ?_
  refine sq_alloc rfl z27 ?_
  refine sq_store rfl (lr _) (lr _) rfl rfl ty27 rfl rfl ?_
  refine asr (lr _) rfl ?_
  refine sq_nil (aw_seq (aw_region ?_))
  refine asr (lr _) rfl ?_
  refine sq_nil (aw_seq (aw_seq (aw_region ?_)))
  refine mvr (lr _) rfl ?_
  refine sq_ev rfl (ev_lenS Tryz.underlying9 (lr _)) ?_
  refine sq_ev rfl (ev_gtr (lr _) (lr _)) ?_
  refine sq_nil ?_
  refine aw_cond (lr _) (fun c2 => ?_) (fun c2 => ?_)
  ·
   have c2' := c2
   try simp only [qq] at c2'
   first | exact absurd c2 (by decide) | (simp at c2; done) | (exfalso; simp at c2; omega)
  ·
   have c2' := c2
   try simp only [qq] at c2'
   refine aw_seq (aw_region ?_)
   refine mvr (lr _) rfl ?_
   refine sq_ev rfl (ev_not (lr _)) ?_
   refine sq_nil ?_
   refine aw_cond (lr _) (fun c3 => ?_) (fun c3 => ?_)
   ·
    have c3' := c3
    try simp only [qq] at c3'
    first | exact absurd c3 (by decide) | (simp at c3; done) | (exfalso; simp at c3; omega)
   ·
    have c3' := c3
    try simp only [qq] at c3'
    refine aw_seq (aw_region ?_)
    refine sq_ev rfl (ev_load_agg (lr _) rfl ty27 rfl) ?_
    refine sq_ev rfl (ev_call en24 (lr _) (pl_val hl hk) ⟨lr _, trivial⟩) ?_
    refine sq_ev rfl (ev_not (lr _)) ?_
    refine sq_nil ?_
    refine aw_cond (lr _) (fun c4 => ?_) (fun c4 => ?_)
    ·
     have c4' := c4
     try simp only [qq] at c4'
     first | exact absurd c4 (by decide) | (simp at c4; done) | (exfalso; simp at c4; omega)
    ·
     have c4' := c4
     try simp only [qq] at c4'
     refine aw_skip (aw_seq (aw_seq (aw_region ?_)))
     refine mvr (lr _) rfl ?_
     refine sq_ev rfl (ev_neq (lr _) (lr _)) ?_
     refine sq_nil ?_
     refine aw_cond (lr _) (fun c5 => ?_) (fun c5 => ?_)
     ·
      have c5' := c5
      try simp only [qq] at c5'
      first | exact absurd c5 (by decide) | (simp at c5; done) | (exfalso; simp at c5; omega)
     ·
      have c5' := c5
      try simp only [qq] at c5'
      refine aw_skip (aw_seq (aw_region ?_))
      refine sq_ev rfl (ev_load_agg (lr _) rfl ty27 rfl) ?_
      refine sq_ev rfl (ev_call en50 (lr _) (pt_val hk hsh) ⟨lr _, trivial⟩) ?_
      refine sq_ev rfl (ev_mv (v := .tup _) (lr _)) ?_
      refine xtr rfl (lr _) rfl ?_
      refine xtr rfl (lr _) rfl ?_
      refine asr (lr _) rfl ?_
      refine asr (lr _) rfl ?_
      refine sq_nil (aw_seq (aw_region ?_))
      refine mvr (lr _) rfl ?_
      refine sq_ev rfl (ev_eql (lr _) (lr _)) ?_
      refine mvr (lr _) rfl ?_
      refine sq_split 52 (lr _) (fun g6 => ?_) (fun g6 => ?_)
      ·
       have g6' := g6
       try simp only [qq] at g6'
       refine sq_yes rfl rfl (less_b g6) rfl (ev_load_agg (lr _) rfl ty27 rfl) ?_
       refine sq_yes rfl rfl (less_b g6) rfl (ev_load_agg (lr _) rfl ty27 rfl) ?_
       refine sq_yes rfl rfl (less_b g6) rfl (ev_call en53 (lr _) (pl_self hl) ⟨lr _, lr _, trivial⟩) ?_
       refine sq_ev rfl (ev_pickT (v := .raw _) (less_b g6) (lr _)) ?_
       refine mvr (lr _) rfl ?_
       refine sq_split 57 (lr _) (fun g7 => ?_) (fun g7 => ?_)
       ·
        have g7' := g7
        try simp only [qq] at g7'
        refine sq_yes rfl rfl (less_b g7) rfl (ev_mv (v := .raw _) (lr _)) ?_
        refine sq_yes rfl rfl (less_b g7) rfl (ev_eql (lr _) (lr _)) ?_
        refine sq_ev rfl (ev_pickT (v := .raw _) (less_b g7) (lr _)) ?_
        refine mvr (lr _) rfl ?_
        refine sq_split 61 (lr _) (fun g8 => ?_) (fun g8 => ?_)
        ·
         have g8' := g8
         try simp only [qq] at g8'
         refine sq_yes rfl rfl (less_b g8) rfl (ev_mv (v := .raw _) (lr _)) ?_
         refine sq_yes rfl rfl (less_b g8) rfl (ev_mv (v := .raw _) (lr _)) ?_
         refine sq_yes rfl rfl (less_b g8) rfl (ev_seqS (lr _) (lr _)) ?_
         refine sq_ev rfl (ev_pickT (v := .raw _) (less_b g8) (lr _)) ?_
         refine mvr (lr _) rfl ?_
         refine sq_split 66 (lr _) (fun g9 => ?_) (fun g9 => ?_)
         ·
          have g9' := g9
          try simp only [qq] at g9'
          refine sq_yes rfl rfl (less_b g9) rfl (ev_call en21 (lr _) (known_pure) trivial) ?_
          refine sq_ev rfl (ev_pickT (v := .raw _) (less_b g9) (lr _)) ?_
          refine asr (lr _) rfl ?_
          refine sq_nil (aw_ret ?_)
          exact retQ_pure (v := .raw _) rfl rfl (lr _)
         ·
          have g9' := g9
          try simp only [qq] at g9'
          first | exact absurd g9 (by decide) | (simp at g9; done) | (exfalso; simp at g9; omega)
        ·
         have g8' := g8
         try simp only [qq] at g8'
         first | exact absurd g8 (by decide) | (simp at g8; done) | (exfalso; simp at g8; omega)
       ·
        have g7' := g7
        try simp only [qq] at g7'
        first | exact absurd g7 (by decide) | (simp at g7; done) | (exfalso; simp at g7; omega)
      ·
       have g6' := g6
       try simp only [qq] at g6'
       first | exact absurd g6 (by decide) | (simp at g6; done) | (exfalso; simp at g6; omega)
/-- **NightReads returns true.** -/
theorem law9 (s : List UInt8) : APure Tryz.prog 9 [S s] (B true) := by
  by_cases h4 : 400 < s.length
  · exact law9_long s h4
  · have h54 := rread_pure s (by omega)
    by_cases h3 : 300 < s.length
    · have h51 : readAV s = .tup [plan pl0, I 3] := by unfold readAV; rw [if_pos h3]
      cases hp : parseL s with
      | none => rw [ref_no hp] at h54; exact law9_big s _ _ h54 h4 h3 h51
      | some p => rw [ref_yes hp] at h54; exact law9_big s _ _ h54 h4 h3 h51
    · cases hp : parseL s with
      | none =>
        rw [ref_no hp] at h54
        exact law9_none s h54 h3 (by unfold readAV; rw [if_neg h3, hp])
      | some p =>
        rw [ref_yes hp] at h54
        have hl := parseL_len hp
        cases hk : PlOK p with
        | false => exact law9_bad s p h54 h3 (by omega) (by unfold readAV; rw [if_neg h3, hp]; simp only; rw [if_neg (by simp [hk])]) hk
        | true => exact law9_ok s p h54 h3 (by omega) (by unfold readAV; rw [if_neg h3, hp]; simp only; rw [if_pos hk]) hk (parse_sheetL hp)
end Go.Proofs.YtjghdbdiejaacaaGreatDoor
