/-
  A part of the proof: conditions: none beyond each theorem's own.
-/
import Derived.Test.YtjghdbdiejaacaaGreatDoorLogicC
import Derived.Test.YtjghdbdiejaacaaGreatDoorSpecA
import Derived.KernelRfl
import Derived.Lib.LaidTab
import Derived.Lib.ItoaNum
import Derived.Test.YtjghdbdiejaacaaGreatDoorProg
import Derived.Test.YtjghdbdiejaacaaGreatDoorWalkF
import Derived.Test.YtjghdbdiejaacaaGreatDoorWalkG
import Derived.ChangeKeysEq
import Derived.Laws.IdiomStrings
import Derived.Laws.IdiomCopy
import Derived.Test.YtjghdbdiejaacaaGreatDoorLogicD
import Derived.Test.YtjghdbdiejaacaaGreatDoorLogicA
import Derived.Test.YtjghdbdiejaacaaGreatDoorLogicB
import Derived.Test.YtjghdbdiejaacaaGreatDoorShelf
import Derived.Test.YtjghdbdiejaacaaGreatDoorWalkA
import Derived.Test.YtjghdbdiejaacaaGreatDoorWalkB
import Derived.Test.YtjghdbdiejaacaaGreatDoorWalkC
import Derived.Test.YtjghdbdiejaacaaGreatDoorWalkD
import Derived.Test.YtjghdbdiejaacaaGreatDoorWalkE
import Derived.Test.YtjghdbdiejaacaaGreatDoorRow
set_option linter.all false
set_option maxHeartbeats 8000000
namespace Go.Proofs.YtjghdbdiejaacaaGreatDoor
open Go Go.Ab Ni
section
variable [Tabs] {c : Ctx} {ops : Array Oper} {Q : AExit → St → Prop} {i : Nat} {rest : List Oper} {s : St} {d : Option Tmp} {x y z : Operand} {t : TypeId} {p : String} {af : Array Edge} {v : Value} {j u n : Nat} {want : Bool} {l : List (List AV)}
theorem pf (hd : dOK c.nt d = true) (hx : Less (s.op x) (.raw (.bool false))) (h : Less (s.op z) (.raw v)) (k : SeqWP c ops Q (i + 1) rest (s.put d (.raw v))) : SeqWP c ops Q i (⟨d, .pick x y z, t, p, af, none⟩ :: rest) s := sq_ev hd (ev_pickF hx h) k
theorem ysl (hj : gslot ops j = some u) (ht : Nat.blt u c.nt = true) (hb : Less (sget s.sl u) (.raw (.bool want))) (hd : dOK c.nt d = true) (h : Less (s.op x) (.sl n l)) (k : SeqWP c ops Q (i + 1) rest (s.put d (.sl n l))) : SeqWP c ops Q i (⟨d, .move x, t, p, af, some (j, want)⟩ :: rest) s := sq_yes hj ht hb hd (ev_mv h) k
theorem xtr {m : List AV} {w : AV} (hd : dOK c.nt d = true) (hx : Less (s.op x) (.tup m)) (hv : m[n]? = some w) (k : SeqWP c ops Q (i + 1) rest (s.put d w)) : SeqWP c ops Q i (⟨d, .extract x n, t, p, af, none⟩ :: rest) s := sq_ev hd (ev_extract hx hv) k
theorem mvs (hd : dOK c.nt d = true) (h : Less (s.op x) (.sl n l)) (k : SeqWP c ops Q (i + 1) rest (s.put d (.sl n l))) : SeqWP c ops Q i (⟨d, .move x, t, p, af, none⟩ :: rest) s := sq_ev hd (ev_mv h) k
theorem ass (hd : dOK c.nt d = true) (h : Less (s.op x) (.sl n l)) (k : SeqWP c ops Q (i + 1) rest (s.put d (.sl n l))) : SeqWP c ops Q i (⟨d, .assign x, t, p, af, none⟩ :: rest) s := sq_ev hd (ev_as h) k
theorem ymr (hj : gslot ops j = some u) (ht : Nat.blt u c.nt = true) (hb : Less (sget s.sl u) (.raw (.bool want))) (hd : dOK c.nt d = true) (h : Less (s.op x) (.raw v)) (k : SeqWP c ops Q (i + 1) rest (s.put d (.raw v))) : SeqWP c ops Q i (⟨d, .move x, t, p, af, some (j, want)⟩ :: rest) s := sq_yes hj ht hb hd (ev_mv h) k
end
theorem en89 : Ent Tryz.prog 89 := Ent.of Tryz.func89 (by kernel_rfl) rfl
theorem en90 : Ent Tryz.prog 90 := Ent.of Tryz.func90 (by kernel_rfl) rfl
theorem en91 : Ent Tryz.prog 91 := Ent.of Tryz.func91 (by kernel_rfl) rfl
theorem in_pure (n lo hi : Int) : APure Tryz.prog 89 [I n, I lo, I hi] (B (inn n lo hi)) := by
 refine apure_of (rs := [.tmp 6]) Tryz.func89 rfl rfl (Nat.le_of_ble_eq_true rfl) (by simp [AV.pureL, AV.pureB, AV.pureE, pureE_map]) (rfl) fun e0 he0 => ?_
 refine aw_seq (aw_region ?_)
 refine asr (lr _) rfl (sq_nil (aw_seq (aw_region ?_)))
 refine mvr (lr _) rfl (mvr (lr _) rfl (sq_ev rfl (ev_geq (lr _) (lr _)) ?_))
 refine mvr (lr _) rfl ?_
 refine sq_split 10 (lr _) (fun g1 => ?_) (fun g1 => ?_)
 ·
  have g1' := g1
  try simp only [qq] at g1'
  refine sq_yes rfl rfl (less_b g1) rfl (ev_mv (v := .raw _) (lr _)) ?_
  refine sq_yes rfl rfl (less_b g1) rfl (ev_mv (v := .raw _) (lr _)) ?_
  refine sq_yes rfl rfl (less_b g1) rfl (ev_leq (lr _) (lr _)) ?_
  refine sq_ev rfl (ev_pickT (v := .raw _) (less_b g1) (lr _)) ?_
  refine asr (lr _) rfl (sq_nil (aw_ret ?_))
  exact retQ_pure (v := .raw _) rfl rfl (Less.eq (by simp [inn, *]))
 ·
  have g1' := g1
  try simp only [qq] at g1'
  refine sq_no rfl rfl (less_b g1) rfl rfl ?_
  refine sq_no rfl rfl (less_b g1) rfl rfl ?_
  refine sq_no rfl rfl (less_b g1) rfl rfl ?_
  refine sq_ev rfl (ev_pickF (v := .raw _) (less_b g1) (lr _)) ?_
  refine asr (lr _) rfl (sq_nil (aw_ret ?_))
  exact retQ_pure (v := .raw _) rfl rfl (Less.eq (by simp [inn, *]))
theorem window_pure (lo hi : Int) : APure Tryz.prog 90 [.agg [I lo, I hi]] (B (wnd lo hi)) := by
 refine apure_of (rs := [.tmp 2]) Tryz.func90 rfl rfl (Nat.le_of_ble_eq_true rfl) (by simp [AV.pureL, AV.pureB, AV.pureE, pureE_map]) (rfl) fun e0 he0 => ?_
 refine aw_seq (aw_region ?_)
 refine sq_box rfl (lr _) rfl (asr (lr _) rfl (sq_nil (aw_seq (aw_region ?_))))
 refine sq_ev rfl (ev_fieldAddr fo23_0 (lr _)) ?_
 refine sq_ev rfl (ev_load (lr _) rfl ty3 rfl) ?_
 refine sq_ev rfl (ev_call en89 (lr _) (in_pure _ _ _) ⟨lr _, lr _, lr _, trivial⟩) ?_
 refine mvr (lr _) rfl ?_
 refine sq_split 6 (lr _) (fun g1 => ?_) (fun g1 => ?_)
 ·
  have g1' := g1
  try simp only [qq] at g1'
  refine sq_yes rfl rfl (less_b g1) rfl (ev_fieldAddr fo23_1 (lr _)) ?_
  refine sq_yes rfl rfl (less_b g1) rfl (ev_load (lr _) rfl ty3 rfl) ?_
  refine sq_yes rfl rfl (less_b g1) rfl (ev_fieldAddr fo23_0 (lr _)) ?_
  refine sq_yes rfl rfl (less_b g1) rfl (ev_load (lr _) rfl ty3 rfl) ?_
  refine sq_yes rfl rfl (less_b g1) rfl (ev_call en89 (lr _) (in_pure _ _ _) ⟨lr _, lr _, lr _, trivial⟩) ?_
  refine sq_ev rfl (ev_pickT (v := .raw _) (less_b g1) (lr _)) ?_
  refine mvr (lr _) rfl ?_
  refine sq_split 13 (lr _) (fun g2 => ?_) (fun g2 => ?_)
  ·
   have g2' := g2
   try simp only [qq] at g2'
   simp only [inn, Bool.and_eq_true, decide_eq_true_eq] at g1' g2'
   refine sq_yes rfl rfl (less_b g2) rfl (ev_fieldAddr fo23_1 (lr _)) ?_
   refine sq_yes rfl rfl (less_b g2) rfl (ev_load (lr _) rfl ty3 rfl) ?_
   refine sq_yes rfl rfl (less_b g2) rfl (ev_fieldAddr fo23_0 (lr _)) ?_
   refine sq_yes rfl rfl (less_b g2) rfl (ev_load (lr _) rfl ty3 rfl) ?_
   refine sq_yes rfl rfl (less_b g2) rfl (ev_sub (lr _) (lr _) (wr (by omega) (by omega))) ?_
   refine sq_yes rfl rfl (less_b g2) rfl (ev_leq (lr _) (lr _)) ?_
   refine sq_ev rfl (ev_pickT (v := .raw _) (less_b g2) (lr _)) ?_
   refine asr (lr _) rfl (sq_nil (aw_ret ?_))
   exact retQ_pure (v := .raw _) rfl rfl (Less.eq (by simp [wnd, *]))
  ·
   have g2' := g2
   try simp only [qq] at g2'
   refine sq_no rfl rfl (less_b g2) rfl rfl ?_
   refine sq_no rfl rfl (less_b g2) rfl rfl ?_
   refine sq_no rfl rfl (less_b g2) rfl rfl ?_
   refine sq_no rfl rfl (less_b g2) rfl rfl ?_
   refine sq_no rfl rfl (less_b g2) rfl rfl ?_
   refine sq_no rfl rfl (less_b g2) rfl rfl ?_
   refine sq_ev rfl (ev_pickF (v := .raw _) (less_b g2) (lr _)) ?_
   refine asr (lr _) rfl (sq_nil (aw_ret ?_))
   exact retQ_pure (v := .raw _) rfl rfl (Less.eq (by simp [wnd, *]))
 ·
  have g1' := g1
  try simp only [qq] at g1'
  refine sq_no rfl rfl (less_b g1) rfl rfl ?_
  refine sq_no rfl rfl (less_b g1) rfl rfl ?_
  refine sq_no rfl rfl (less_b g1) rfl rfl ?_
  refine sq_no rfl rfl (less_b g1) rfl rfl ?_
  refine sq_no rfl rfl (less_b g1) rfl rfl ?_
  refine sq_ev rfl (ev_pickF (v := .raw _) (less_b g1) (lr _)) ?_
  refine mvr (lr _) rfl (sq_no rfl rfl (lr _) rfl rfl (sq_no rfl rfl (lr _) rfl rfl (sq_no rfl rfl (lr _) rfl rfl ?_)))
  refine sq_no rfl rfl (lr _) rfl rfl (sq_no rfl rfl (lr _) rfl rfl (sq_no rfl rfl (lr _) rfl rfl (pf rfl (lr _) (lr _) (asr (lr _) rfl (sq_nil (aw_ret ?_))))))
  exact retQ_pure (v := .raw _) rfl rfl (Less.eq (by simp [wnd, *]))
theorem scenes_pure (p : Pl) (hl : p.scenes.length ≤ 1000000) : APure Tryz.prog 91 [plan p] (B (decide (ScOK p.scenes))) := by
 refine apure_of (rs := [.tmp 2]) Tryz.func91 rfl rfl (Nat.le_of_ble_eq_true rfl) (by simp [AV.pureL, AV.pureB, AV.pureE, pureE_map]) (rfl) fun e0 he0 => ?_
 refine aw_seq (aw_region ?_)
 refine sq_box rfl (lr _) rfl (asr (lr _) rfl (sq_nil (aw_seq (aw_region ?_))))
 refine asr (lr _) rfl (sq_nil (aw_seq (aw_seq (aw_region ?_))))
 refine asr (lr _) rfl (sq_nil (aw_block ?_))
 refine aw_loopk (ι := { k : Nat // k ≤ p.scenes.length ∧ ∀ i, (h : i < p.scenes.length) → i < k → scBad p.scenes i h = false }) [1] (fun i => [(3, I (loosies (p.scenes.take i.1))), (4, I i.1)]) (fun H i => H) (fun i => p.scenes.length - i.1) (⟨0, Nat.zero_le _, by omega⟩) ⟨lr _, lr _, lr _, trivial⟩ rfl ?_
 rintro ⟨k, hk, hok⟩
 dsimp only [keepS, St.put, sget, slotsOf, List.map_cons, List.map_nil, List.cons_append, List.nil_append, List.length_cons, List.length_nil, Nat.reduceBEq, Nat.reduceAdd, cond_true, cond_false]
 have hlo := loosies_le (p.scenes.take k)
 have hlt := List.length_take_le k p.scenes
 refine aw_seq (aw_seq (aw_region ?_))
 refine mvr (lr _) rfl (sq_ev rfl (ev_fieldAddr fo27_3 (lr _)) ?_)
 refine sq_ev rfl (ev_load (lr _) rfl ty25 rfl) ?_
 refine sq_ev rfl (ev_len_map sl25 (lr _)) ?_
 refine sq_ev rfl (ev_lss (lr _) (lr _)) ?_
 refine sq_nil ?_
 refine aw_cond (lr _) (fun c1 => ?_) (fun c1 => ?_)
 ·
  have c1' := c1
  try simp only [qq] at c1'
  refine aw_skip (aw_seq (aw_block (aw_seq (aw_region ?_))))
  refine sq_ev rfl (ev_fieldAddr fo27_3 (lr _)) ?_
  refine sq_ev rfl (ev_load (lr _) rfl ty25 rfl) ?_
  refine mvr (lr _) rfl (sq_ev rfl (ev_index_map sl25 (lr _) (lr _) rfl (by omega)) ?_)
  refine sq_ev rfl (ev_load_agg_i (lr _) ty84 (Nat.le_of_ble_eq_true rfl)) ?_
  refine sq_alloc rfl z84 ?_
  refine sq_store rfl (lr _) (lr _) rfl rfl ty84 rfl rfl ?_
  refine sq_nil (aw_seq (aw_seq ?_))
  refine aw_draw 50 mo (by kernel_rfl) ?_
  refine dr_ev rfl (ev_fieldAddr fo84_0 (lr _)) ?_
  refine dr_ev rfl (ev_load (lr _) rfl ty3 rfl) ?_
  refine dr_ev rfl (ev_call en89 (lr _) (in_pure _ _ _) ⟨lr _, lr _, lr _, trivial⟩) ?_
  refine dr_ev rfl (ev_not (lr _)) ?_
  refine dr_ev rfl (ev_mv (v := .raw _) (lr _)) ?_
  refine dr_split 22 (lr _) (fun g2 => ?_) (fun g2 => ?_)
  ·
   have g2' := g2
   try simp only [qq] at g2'
   refine dr_no rfl rfl (less_b g2) rfl rfl ?_
   refine dr_no rfl rfl (less_b g2) rfl rfl ?_
   refine dr_no rfl rfl (less_b g2) rfl rfl ?_
   refine dr_no rfl rfl (lr _) rfl rfl (dr_no rfl rfl (lr _) rfl rfl (dr_no rfl rfl (lr _) rfl rfl (dr_no rfl rfl (lr _) rfl rfl ?_)))
   refine dr_no rfl rfl (lr _) rfl rfl (dr_no rfl rfl (lr _) rfl rfl (dr_no rfl rfl (lr _) rfl rfl (dr_no rfl rfl (lr _) rfl rfl (dr_no rfl rfl (lr _) rfl rfl (dr_no rfl rfl (lr _) rfl rfl (dr_no rfl rfl (less_b g2) rfl rfl ?_))))))
   refine dr_ev rfl (ev_pickT (v := .raw _) (less_b g2) (lr _)) ?_
   refine dr_ev rfl (ev_mv (v := .raw _) (lr _)) ?_
   refine dr_no rfl rfl (lr _) rfl rfl (dr_no rfl rfl (lr _) rfl rfl (dr_no rfl rfl (lr _) rfl rfl (dr_no rfl rfl (lr _) rfl rfl ?_)))
   refine dr_ev rfl (ev_pickT (v := .raw _) (lr _) (lr _)) ?_
   refine dr_ev rfl (ev_mv (v := .raw _) (lr _)) ?_
   refine dr_no rfl rfl (lr _) rfl rfl (dr_no rfl rfl (lr _) rfl rfl (dr_no rfl rfl (lr _) rfl rfl (dr_no rfl rfl (lr _) rfl rfl (dr_no rfl rfl (lr _) rfl rfl (dr_no rfl rfl (lr _) rfl rfl ?_)))))
   refine dr_ev rfl (ev_pickT (v := .raw _) (lr _) (lr _)) ?_
   refine dr_ev rfl (ev_mv (v := .raw _) (lr _)) ?_
   refine dr_no rfl rfl (lr _) rfl rfl ?_
   refine dr_no rfl rfl (lr _) rfl rfl (dr_no rfl rfl (lr _) rfl rfl (dr_no rfl rfl (lr _) rfl rfl (dr_no rfl rfl (lr _) rfl rfl (dr_no rfl rfl (lr _) rfl rfl (dr_no rfl rfl (lr _) rfl rfl (dr_no rfl rfl (lr _) rfl rfl ?_))))))
   refine dr_ev rfl (ev_pickT (v := .raw _) (lr _) (lr _)) ?_
   refine dr_ev rfl (ev_mv (v := .raw _) (lr _)) ?_
   refine dr_no rfl rfl (lr _) rfl rfl (dr_no rfl rfl (lr _) rfl rfl (dr_no rfl rfl (lr _) rfl rfl (dr_no rfl rfl (lr _) rfl rfl ?_)))
   refine dr_ev rfl (ev_pickT (v := .raw _) (lr _) (lr _)) ?_
   refine dr_end (sq_nil ?_)
   refine aw_true (lr _) ?_
   refine aw_seq (aw_region ?_)
   refine asr (lr _) rfl (sq_nil (aw_ret ?_))
   exact retQ_pure (v := .raw _) rfl rfl (Less.eq (by rw [scOK_bad (i := k) (by omega) (by simp [scBad, *])]))
  ·
   have g2' := g2
   try simp only [qq] at g2'
   refine dr_yes rfl rfl (less_b g2) rfl (ev_mv (v := .raw _) (lr _)) ?_
   refine dr_yes rfl rfl (less_b g2) rfl (ev_gtr (lr _) (lr _)) ?_
   refine dr_yes rfl rfl (less_b g2) rfl (ev_mv (v := .raw _) (lr _)) ?_
   refine dr_split 25 (lr _) (fun g3 => ?_) (fun g3 => ?_)
   ·
    have g3' := g3
    try simp only [qq] at g3'
    have g3n : 0 < k := by omega
    refine dr_yes rfl rfl (less_b g3) rfl (ev_fieldAddr fo84_0 (lr _)) ?_
    refine dr_yes rfl rfl (less_b g3) rfl (ev_load (lr _) rfl ty3 rfl) ?_
    refine dr_yes rfl rfl (less_b g3) rfl (ev_fieldAddr fo27_3 (lr _)) ?_
    refine dr_yes rfl rfl (less_b g3) rfl (ev_load (lr _) rfl ty25 rfl) ?_
    refine dr_yes rfl rfl (less_b g3) rfl (ev_mv (v := .raw _) (lr _)) ?_
    refine dr_yes rfl rfl (less_b g3) rfl (ev_sub (lr _) (lr _) (wr (by omega) (by omega))) ?_
    refine dr_yes rfl rfl (less_b g3) rfl (ev_index_map sl25 (lr _) (lr _) (show ((k : Int) - 1) = ((k - 1 : Nat) : Int) by omega) (by omega)) ?_
    refine dr_yes rfl rfl (less_b g3) rfl (ev_fieldAddr_i fo84_0 (lr _)) ?_
    refine dr_yes rfl rfl (less_b g3) rfl (ev_load_i (lr _) ty3 rfl) ?_
    refine dr_yes rfl rfl (less_b g3) rfl (ev_lss (lr _) (lr _)) ?_
    refine dr_yes rfl rfl (less_b g2) rfl (ev_pickT (v := .raw _) (less_b g3) (lr _)) ?_
    refine dr_ev rfl (ev_pickF (v := .raw _) (less_b g2) (lr _)) ?_
    refine dr_ev rfl (ev_mv (v := .raw _) (lr _)) ?_
    refine dr_split 38 (lr _) (fun g4 => ?_) (fun g4 => ?_)
    ·
     have g4' := g4
     try simp only [qq] at g4'
     refine dr_no rfl rfl (less_b g4) rfl rfl ?_
     refine dr_no rfl rfl (less_b g4) rfl rfl ?_
     refine dr_no rfl rfl (less_b g4) rfl rfl ?_
     refine dr_no rfl rfl (less_b g4) rfl rfl ?_
     refine dr_ev rfl (ev_pickT (v := .raw _) (less_b g4) (lr _)) ?_
     refine dr_ev rfl (ev_mv (v := .raw _) (lr _)) ?_
     refine dr_no rfl rfl (lr _) rfl rfl (dr_no rfl rfl (lr _) rfl rfl (dr_no rfl rfl (lr _) rfl rfl (dr_no rfl rfl (lr _) rfl rfl (dr_no rfl rfl (lr _) rfl rfl (dr_no rfl rfl (lr _) rfl rfl ?_)))))
     refine dr_ev rfl (ev_pickT (v := .raw _) (lr _) (lr _)) ?_
     refine dr_ev rfl (ev_mv (v := .raw _) (lr _)) ?_
     refine dr_no rfl rfl (lr _) rfl rfl ?_
     refine dr_no rfl rfl (lr _) rfl rfl (dr_no rfl rfl (lr _) rfl rfl (dr_no rfl rfl (lr _) rfl rfl (dr_no rfl rfl (lr _) rfl rfl (dr_no rfl rfl (lr _) rfl rfl (dr_no rfl rfl (lr _) rfl rfl (dr_no rfl rfl (lr _) rfl rfl ?_))))))
     refine dr_ev rfl (ev_pickT (v := .raw _) (lr _) (lr _)) ?_
     refine dr_ev rfl (ev_mv (v := .raw _) (lr _)) ?_
     refine dr_no rfl rfl (lr _) rfl rfl (dr_no rfl rfl (lr _) rfl rfl (dr_no rfl rfl (lr _) rfl rfl (dr_no rfl rfl (lr _) rfl rfl ?_)))
     refine dr_ev rfl (ev_pickT (v := .raw _) (lr _) (lr _)) ?_
     refine dr_end (sq_nil ?_)
     refine aw_true (lr _) ?_
     refine aw_seq (aw_region ?_)
     refine asr (lr _) rfl (sq_nil (aw_ret ?_))
     exact retQ_pure (v := .raw _) rfl rfl (Less.eq (by rw [scOK_bad (i := k) (by omega) (by simp [scBad, *])]))
    ·
     have g4' := g4
     try simp only [qq] at g4'
     refine dr_yes rfl rfl (less_b g4) rfl (ev_fieldAddr fo84_1 (lr _)) ?_
     refine dr_yes rfl rfl (less_b g4) rfl (ev_load (lr _) rfl ty3 rfl) ?_
     refine dr_yes rfl rfl (less_b g4) rfl (ev_call en89 (lr _) (in_pure _ _ _) ⟨lr _, lr _, lr _, trivial⟩) ?_
     refine dr_yes rfl rfl (less_b g4) rfl (ev_not (lr _)) ?_
     refine dr_ev rfl (ev_pickF (v := .raw _) (less_b g4) (lr _)) ?_
     refine dr_ev rfl (ev_mv (v := .raw _) (lr _)) ?_
     refine dr_split 44 (lr _) (fun g5 => ?_) (fun g5 => ?_)
     ·
      have g5' := g5
      try simp only [qq] at g5'
      refine dr_no rfl rfl (less_b g5) rfl rfl ?_
      refine dr_no rfl rfl (less_b g5) rfl rfl ?_
      refine dr_no rfl rfl (less_b g5) rfl rfl ?_
      refine dr_no rfl rfl (less_b g5) rfl rfl ?_
      refine dr_no rfl rfl (less_b g5) rfl rfl ?_
      refine dr_no rfl rfl (less_b g5) rfl rfl ?_
      refine dr_ev rfl (ev_pickT (v := .raw _) (less_b g5) (lr _)) ?_
      refine dr_ev rfl (ev_mv (v := .raw _) (lr _)) ?_
      refine dr_no rfl rfl (lr _) rfl rfl ?_
      refine dr_no rfl rfl (lr _) rfl rfl (dr_no rfl rfl (lr _) rfl rfl (dr_no rfl rfl (lr _) rfl rfl (dr_no rfl rfl (lr _) rfl rfl (dr_no rfl rfl (lr _) rfl rfl (dr_no rfl rfl (lr _) rfl rfl (dr_no rfl rfl (lr _) rfl rfl ?_))))))
      refine dr_ev rfl (ev_pickT (v := .raw _) (lr _) (lr _)) ?_
      refine dr_ev rfl (ev_mv (v := .raw _) (lr _)) ?_
      refine dr_no rfl rfl (lr _) rfl rfl (dr_no rfl rfl (lr _) rfl rfl (dr_no rfl rfl (lr _) rfl rfl (dr_no rfl rfl (lr _) rfl rfl ?_)))
      refine dr_ev rfl (ev_pickT (v := .raw _) (lr _) (lr _)) ?_
      refine dr_end (sq_nil ?_)
      refine aw_true (lr _) ?_
      refine aw_seq (aw_region ?_)
      refine asr (lr _) rfl (sq_nil (aw_ret ?_))
      exact retQ_pure (v := .raw _) rfl rfl (Less.eq (by rw [scOK_bad (i := k) (by omega) (by simp [scBad, *])]))
     ·
      have g5' := g5
      try simp only [qq] at g5'
      refine dr_yes rfl rfl (less_b g5) rfl (ev_fieldAddr fo84_2 (lr _)) ?_
      refine dr_yes rfl rfl (less_b g5) rfl (ev_load (lr _) rfl ty3 rfl) ?_
      refine dr_yes rfl rfl (less_b g5) rfl (ev_fieldAddr fo84_1 (lr _)) ?_
      refine dr_yes rfl rfl (less_b g5) rfl (ev_load (lr _) rfl ty3 rfl) ?_
      refine dr_yes rfl rfl (less_b g5) rfl (ev_call en89 (lr _) (in_pure _ _ _) ⟨lr _, lr _, lr _, trivial⟩) ?_
      refine dr_yes rfl rfl (less_b g5) rfl (ev_not (lr _)) ?_
      refine dr_ev rfl (ev_pickF (v := .raw _) (less_b g5) (lr _)) ?_
      refine dr_ev rfl (ev_mv (v := .raw _) (lr _)) ?_
      refine dr_split 52 (lr _) (fun g6 => ?_) (fun g6 => ?_)
      ·
       have g6' := g6
       try simp only [qq] at g6'
       refine dr_no rfl rfl (less_b g6) rfl rfl ?_
       refine dr_no rfl rfl (less_b g6) rfl rfl ?_
       refine dr_no rfl rfl (less_b g6) rfl rfl ?_
       refine dr_no rfl rfl (less_b g6) rfl rfl ?_
       refine dr_no rfl rfl (less_b g6) rfl rfl ?_
       refine dr_no rfl rfl (less_b g6) rfl rfl ?_
       refine dr_no rfl rfl (less_b g6) rfl rfl ?_
       refine dr_no rfl rfl (less_b g6) rfl rfl ?_
       refine dr_ev rfl (ev_pickT (v := .raw _) (less_b g6) (lr _)) ?_
       refine dr_ev rfl (ev_mv (v := .raw _) (lr _)) ?_
       refine dr_no rfl rfl (lr _) rfl rfl (dr_no rfl rfl (lr _) rfl rfl (dr_no rfl rfl (lr _) rfl rfl (dr_no rfl rfl (lr _) rfl rfl ?_)))
       refine dr_ev rfl (ev_pickT (v := .raw _) (lr _) (lr _)) ?_
       refine dr_end (sq_nil ?_)
       refine aw_true (lr _) ?_
       refine aw_seq (aw_region ?_)
       refine asr (lr _) rfl (sq_nil (aw_ret ?_))
       exact retQ_pure (v := .raw _) rfl rfl (Less.eq (by rw [scOK_bad (i := k) (by omega) (by simp [scBad, *])]))
      ·
       have g6' := g6
       try simp only [qq] at g6'
       refine dr_yes rfl rfl (less_b g6) rfl (ev_fieldAddr fo84_4 (lr _)) ?_
       refine dr_yes rfl rfl (less_b g6) rfl (ev_load (lr _) rfl ty3 rfl) ?_
       refine dr_yes rfl rfl (less_b g6) rfl (ev_fieldAddr fo27_3 (lr _)) ?_
       refine dr_yes rfl rfl (less_b g6) rfl (ev_load (lr _) rfl ty25 rfl) ?_
       refine dr_yes rfl rfl (less_b g6) rfl (ev_len_map sl25 (lr _)) ?_
       refine dr_yes rfl rfl (less_b g6) rfl (ev_sub (lr _) (lr _) (wr (by omega) (by omega))) ?_
       refine dr_yes rfl rfl (less_b g6) rfl (ev_call en89 (lr _) (in_pure _ _ _) ⟨lr _, lr _, lr _, trivial⟩) ?_
       refine dr_yes rfl rfl (less_b g6) rfl (ev_not (lr _)) ?_
       refine dr_ev rfl (ev_pickF (v := .raw _) (less_b g6) (lr _)) ?_
       refine dr_ev rfl (ev_mv (v := .raw _) (lr _)) ?_
       refine dr_split 62 (lr _) (fun g7 => ?_) (fun g7 => ?_)
       ·
        have g7' := g7
        try simp only [qq] at g7'
        refine dr_no rfl rfl (less_b g7) rfl rfl ?_
        refine dr_no rfl rfl (less_b g7) rfl rfl ?_
        refine dr_no rfl rfl (less_b g7) rfl rfl ?_
        refine dr_no rfl rfl (less_b g7) rfl rfl ?_
        refine dr_ev rfl (ev_pickT (v := .raw _) (less_b g7) (lr _)) ?_
        refine dr_end (sq_nil ?_)
        refine aw_true (lr _) ?_
        refine aw_seq (aw_region ?_)
        refine asr (lr _) rfl (sq_nil (aw_ret ?_))
        exact retQ_pure (v := .raw _) rfl rfl (Less.eq (by rw [scOK_bad (i := k) (by omega) (by simp [scBad, *])]))
       ·
        have g7' := g7
        try simp only [qq] at g7'
        refine dr_yes rfl rfl (less_b g7) rfl (ev_fieldAddr fo84_4 (lr _)) ?_
        refine dr_yes rfl rfl (less_b g7) rfl (ev_load (lr _) rfl ty3 rfl) ?_
        refine dr_yes rfl rfl (less_b g7) rfl (ev_mv (v := .raw _) (lr _)) ?_
        refine dr_yes rfl rfl (less_b g7) rfl (ev_eql (lr _) (lr _)) ?_
        refine dr_ev rfl (ev_pickF (v := .raw _) (less_b g7) (lr _)) ?_
        refine dr_end (sq_nil ?_)
        refine aw_cond (lr _) (fun c8 => ?_) (fun c8 => ?_)
        ·
         have c8' := c8
         try simp only [qq] at c8'
         refine aw_seq (aw_region ?_)
         refine asr (lr _) rfl (sq_nil (aw_ret ?_))
         exact retQ_pure (v := .raw _) rfl rfl (Less.eq (by rw [scOK_bad (i := k) (by omega) (by simp [scBad, *])]))
        ·
         have c8' := c8
         try simp only [qq] at c8'
         refine aw_skip (aw_seq (aw_region ?_))
         refine sq_ev rfl (ev_fieldAddr fo84_3 (lr _)) ?_
         refine sq_ev rfl (ev_load (lr _) rfl ty4 rfl) ?_
         refine sq_nil ?_
         refine aw_cond (lr _) (fun c9 => ?_) (fun c9 => ?_)
         ·
          have c9' := c9
          try simp only [qq] at c9'
          refine aw_region ?_
          refine mvr (lr _) rfl (sq_ev rfl (ev_add (lr _) (lr _) (wr (by omega) (by omega))) ?_)
          refine asr (lr _) rfl (sq_nil (aw_region ?_))
          refine mvr (lr _) rfl (sq_ev rfl (ev_add (lr _) (lr _) (wr (by omega) (by omega))) ?_)
          refine asr (lr _) rfl (sq_nil ?_)
          have hstep := loosies_take (l := p.scenes) (k := k) (by omega)
          have hgood : scBad p.scenes k (by omega) = false := by simp [scBad, *]
          exact ⟨⟨k + 1, by omega, fun i h hi => (by by_cases e : i = k; (subst e; exact hgood); exact hok i h (by omega))⟩, by simp only; omega, Sub.fin 1 ⟨less_int (by rw [hstep]; simp [*]), lr _, lr _, trivial⟩ rfl (by simp [slotsIn, objsIn, sget, keepS, AObj.inB, AV.inB, AV.inL, AV.inE, inE_map]) (by simp [slotsIn, objsIn, sget, keepS, AObj.inB, AV.inB, AV.inL, AV.inE, inE_map]) (by simp [he0])⟩
         ·
          have c9' := c9
          try simp only [qq] at c9'
          refine aw_skip (aw_region ?_)
          refine mvr (lr _) rfl (sq_ev rfl (ev_add (lr _) (lr _) (wr (by omega) (by omega))) ?_)
          refine asr (lr _) rfl (sq_nil ?_)
          have hstep := loosies_take (l := p.scenes) (k := k) (by omega)
          have hgood : scBad p.scenes k (by omega) = false := by simp [scBad, *]
          exact ⟨⟨k + 1, by omega, fun i h hi => (by by_cases e : i = k; (subst e; exact hgood); exact hok i h (by omega))⟩, by simp only; omega, Sub.fin 1 ⟨less_int (by rw [hstep]; simp [*]), lr _, lr _, trivial⟩ rfl (by simp [slotsIn, objsIn, sget, keepS, AObj.inB, AV.inB, AV.inL, AV.inE, inE_map]) (by simp [slotsIn, objsIn, sget, keepS, AObj.inB, AV.inB, AV.inL, AV.inE, inE_map]) (by simp [he0])⟩
   ·
    have g3' := g3
    try simp only [qq] at g3'
    have g3n : ¬ (0 < k) := by omega
    refine dr_no rfl rfl (less_b g3) rfl rfl ?_
    refine dr_no rfl rfl (less_b g3) rfl rfl ?_
    refine dr_no rfl rfl (less_b g3) rfl rfl ?_
    refine dr_no rfl rfl (less_b g3) rfl rfl ?_
    refine dr_no rfl rfl (less_b g3) rfl rfl ?_
    refine dr_no rfl rfl (less_b g3) rfl rfl ?_
    refine dr_no rfl rfl (less_b g3) rfl rfl ?_
    refine dr_no rfl rfl (less_b g3) rfl rfl ?_
    refine dr_no rfl rfl (less_b g3) rfl rfl ?_
    refine dr_no rfl rfl (less_b g3) rfl rfl ?_
    refine dr_yes rfl rfl (less_b g2) rfl (ev_pickF (v := .raw _) (less_b g3) (lr _)) ?_
    refine dr_ev rfl (ev_pickF (v := .raw _) (less_b g2) (lr _)) ?_
    refine dr_ev rfl (ev_mv (v := .raw _) (lr _)) ?_
    refine dr_yes rfl rfl (lr _) rfl (ev_fieldAddr fo84_1 (lr _)) ?_
    refine dr_yes rfl rfl (lr _) rfl (ev_load (lr _) rfl ty3 rfl) ?_
    refine dr_yes rfl rfl (lr _) rfl (ev_call en89 (lr _) (in_pure _ _ _) ⟨lr _, lr _, lr _, trivial⟩) ?_
    refine dr_yes rfl rfl (lr _) rfl (ev_not (lr _)) ?_
    refine dr_ev rfl (ev_pickF (v := .raw _) (lr _) (lr _)) ?_
    refine dr_ev rfl (ev_mv (v := .raw _) (lr _)) ?_
    refine dr_split 44 (lr _) (fun g10 => ?_) (fun g10 => ?_)
    ·
     have g10' := g10
     try simp only [qq] at g10'
     refine dr_no rfl rfl (less_b g10) rfl rfl ?_
     refine dr_no rfl rfl (less_b g10) rfl rfl ?_
     refine dr_no rfl rfl (less_b g10) rfl rfl ?_
     refine dr_no rfl rfl (less_b g10) rfl rfl ?_
     refine dr_no rfl rfl (less_b g10) rfl rfl ?_
     refine dr_no rfl rfl (less_b g10) rfl rfl ?_
     refine dr_ev rfl (ev_pickT (v := .raw _) (less_b g10) (lr _)) ?_
     refine dr_ev rfl (ev_mv (v := .raw _) (lr _)) ?_
     refine dr_no rfl rfl (lr _) rfl rfl ?_
     refine dr_no rfl rfl (lr _) rfl rfl (dr_no rfl rfl (lr _) rfl rfl (dr_no rfl rfl (lr _) rfl rfl (dr_no rfl rfl (lr _) rfl rfl (dr_no rfl rfl (lr _) rfl rfl (dr_no rfl rfl (lr _) rfl rfl (dr_no rfl rfl (lr _) rfl rfl ?_))))))
     refine dr_ev rfl (ev_pickT (v := .raw _) (lr _) (lr _)) ?_
     refine dr_ev rfl (ev_mv (v := .raw _) (lr _)) ?_
     refine dr_no rfl rfl (lr _) rfl rfl (dr_no rfl rfl (lr _) rfl rfl (dr_no rfl rfl (lr _) rfl rfl (dr_no rfl rfl (lr _) rfl rfl ?_)))
     refine dr_ev rfl (ev_pickT (v := .raw _) (lr _) (lr _)) ?_
     refine dr_end (sq_nil ?_)
     refine aw_true (lr _) ?_
     refine aw_seq (aw_region ?_)
     refine asr (lr _) rfl (sq_nil (aw_ret ?_))
     exact retQ_pure (v := .raw _) rfl rfl (Less.eq (by rw [scOK_bad (i := k) (by omega) (by simp [scBad, *])]))
    ·
     have g10' := g10
     try simp only [qq] at g10'
     refine dr_yes rfl rfl (less_b g10) rfl (ev_fieldAddr fo84_2 (lr _)) ?_
     refine dr_yes rfl rfl (less_b g10) rfl (ev_load (lr _) rfl ty3 rfl) ?_
     refine dr_yes rfl rfl (less_b g10) rfl (ev_fieldAddr fo84_1 (lr _)) ?_
     refine dr_yes rfl rfl (less_b g10) rfl (ev_load (lr _) rfl ty3 rfl) ?_
     refine dr_yes rfl rfl (less_b g10) rfl (ev_call en89 (lr _) (in_pure _ _ _) ⟨lr _, lr _, lr _, trivial⟩) ?_
     refine dr_yes rfl rfl (less_b g10) rfl (ev_not (lr _)) ?_
     refine dr_ev rfl (ev_pickF (v := .raw _) (less_b g10) (lr _)) ?_
     refine dr_ev rfl (ev_mv (v := .raw _) (lr _)) ?_
     refine dr_split 52 (lr _) (fun g11 => ?_) (fun g11 => ?_)
     ·
      have g11' := g11
      try simp only [qq] at g11'
      refine dr_no rfl rfl (less_b g11) rfl rfl ?_
      refine dr_no rfl rfl (less_b g11) rfl rfl ?_
      refine dr_no rfl rfl (less_b g11) rfl rfl ?_
      refine dr_no rfl rfl (less_b g11) rfl rfl ?_
      refine dr_no rfl rfl (less_b g11) rfl rfl ?_
      refine dr_no rfl rfl (less_b g11) rfl rfl ?_
      refine dr_no rfl rfl (less_b g11) rfl rfl ?_
      refine dr_no rfl rfl (less_b g11) rfl rfl ?_
      refine dr_ev rfl (ev_pickT (v := .raw _) (less_b g11) (lr _)) ?_
      refine dr_ev rfl (ev_mv (v := .raw _) (lr _)) ?_
      refine dr_no rfl rfl (lr _) rfl rfl (dr_no rfl rfl (lr _) rfl rfl (dr_no rfl rfl (lr _) rfl rfl (dr_no rfl rfl (lr _) rfl rfl ?_)))
      refine dr_ev rfl (ev_pickT (v := .raw _) (lr _) (lr _)) ?_
      refine dr_end (sq_nil ?_)
      refine aw_true (lr _) ?_
      refine aw_seq (aw_region ?_)
      refine asr (lr _) rfl (sq_nil (aw_ret ?_))
      exact retQ_pure (v := .raw _) rfl rfl (Less.eq (by rw [scOK_bad (i := k) (by omega) (by simp [scBad, *])]))
     ·
      have g11' := g11
      try simp only [qq] at g11'
      refine dr_yes rfl rfl (less_b g11) rfl (ev_fieldAddr fo84_4 (lr _)) ?_
      refine dr_yes rfl rfl (less_b g11) rfl (ev_load (lr _) rfl ty3 rfl) ?_
      refine dr_yes rfl rfl (less_b g11) rfl (ev_fieldAddr fo27_3 (lr _)) ?_
      refine dr_yes rfl rfl (less_b g11) rfl (ev_load (lr _) rfl ty25 rfl) ?_
      refine dr_yes rfl rfl (less_b g11) rfl (ev_len_map sl25 (lr _)) ?_
      refine dr_yes rfl rfl (less_b g11) rfl (ev_sub (lr _) (lr _) (wr (by omega) (by omega))) ?_
      refine dr_yes rfl rfl (less_b g11) rfl (ev_call en89 (lr _) (in_pure _ _ _) ⟨lr _, lr _, lr _, trivial⟩) ?_
      refine dr_yes rfl rfl (less_b g11) rfl (ev_not (lr _)) ?_
      refine dr_ev rfl (ev_pickF (v := .raw _) (less_b g11) (lr _)) ?_
      refine dr_ev rfl (ev_mv (v := .raw _) (lr _)) ?_
      refine dr_split 62 (lr _) (fun g12 => ?_) (fun g12 => ?_)
      ·
       have g12' := g12
       try simp only [qq] at g12'
       refine dr_no rfl rfl (less_b g12) rfl rfl ?_
       refine dr_no rfl rfl (less_b g12) rfl rfl ?_
       refine dr_no rfl rfl (less_b g12) rfl rfl ?_
       refine dr_no rfl rfl (less_b g12) rfl rfl ?_
       refine dr_ev rfl (ev_pickT (v := .raw _) (less_b g12) (lr _)) ?_
       refine dr_end (sq_nil ?_)
       refine aw_true (lr _) ?_
       refine aw_seq (aw_region ?_)
       refine asr (lr _) rfl (sq_nil (aw_ret ?_))
       exact retQ_pure (v := .raw _) rfl rfl (Less.eq (by rw [scOK_bad (i := k) (by omega) (by simp [scBad, *])]))
      ·
       have g12' := g12
       try simp only [qq] at g12'
       refine dr_yes rfl rfl (less_b g12) rfl (ev_fieldAddr fo84_4 (lr _)) ?_
       refine dr_yes rfl rfl (less_b g12) rfl (ev_load (lr _) rfl ty3 rfl) ?_
       refine dr_yes rfl rfl (less_b g12) rfl (ev_mv (v := .raw _) (lr _)) ?_
       refine dr_yes rfl rfl (less_b g12) rfl (ev_eql (lr _) (lr _)) ?_
       refine dr_ev rfl (ev_pickF (v := .raw _) (less_b g12) (lr _)) ?_
       refine dr_end (sq_nil ?_)
       refine aw_cond (lr _) (fun c13 => ?_) (fun c13 => ?_)
       ·
        have c13' := c13
        try simp only [qq] at c13'
        refine aw_seq (aw_region ?_)
        refine asr (lr _) rfl (sq_nil (aw_ret ?_))
        exact retQ_pure (v := .raw _) rfl rfl (Less.eq (by rw [scOK_bad (i := k) (by omega) (by simp [scBad, *])]))
       ·
        have c13' := c13
        try simp only [qq] at c13'
        refine aw_skip (aw_seq (aw_region ?_))
        refine sq_ev rfl (ev_fieldAddr fo84_3 (lr _)) ?_
        refine sq_ev rfl (ev_load (lr _) rfl ty4 rfl) ?_
        refine sq_nil ?_
        refine aw_cond (lr _) (fun c14 => ?_) (fun c14 => ?_)
        ·
         have c14' := c14
         try simp only [qq] at c14'
         refine aw_region ?_
         refine mvr (lr _) rfl (sq_ev rfl (ev_add (lr _) (lr _) (wr (by omega) (by omega))) ?_)
         refine asr (lr _) rfl (sq_nil (aw_region ?_))
         refine mvr (lr _) rfl (sq_ev rfl (ev_add (lr _) (lr _) (wr (by omega) (by omega))) ?_)
         refine asr (lr _) rfl (sq_nil ?_)
         have hstep := loosies_take (l := p.scenes) (k := k) (by omega)
         have hgood : scBad p.scenes k (by omega) = false := by simp [scBad, *]
         exact ⟨⟨k + 1, by omega, fun i h hi => (by by_cases e : i = k; (subst e; exact hgood); exact hok i h (by omega))⟩, by simp only; omega, Sub.fin 1 ⟨less_int (by rw [hstep]; simp [*]), lr _, lr _, trivial⟩ rfl (by simp [slotsIn, objsIn, sget, keepS, AObj.inB, AV.inB, AV.inL, AV.inE, inE_map]) (by simp [slotsIn, objsIn, sget, keepS, AObj.inB, AV.inB, AV.inL, AV.inE, inE_map]) (by simp [he0])⟩
        ·
         have c14' := c14
         try simp only [qq] at c14'
         refine aw_skip (aw_region ?_)
         refine mvr (lr _) rfl (sq_ev rfl (ev_add (lr _) (lr _) (wr (by omega) (by omega))) ?_)
         refine asr (lr _) rfl (sq_nil ?_)
         have hstep := loosies_take (l := p.scenes) (k := k) (by omega)
         have hgood : scBad p.scenes k (by omega) = false := by simp [scBad, *]
         exact ⟨⟨k + 1, by omega, fun i h hi => (by by_cases e : i = k; (subst e; exact hgood); exact hok i h (by omega))⟩, by simp only; omega, Sub.fin 1 ⟨less_int (by rw [hstep]; simp [*]), lr _, lr _, trivial⟩ rfl (by simp [slotsIn, objsIn, sget, keepS, AObj.inB, AV.inB, AV.inL, AV.inE, inE_map]) (by simp [slotsIn, objsIn, sget, keepS, AObj.inB, AV.inB, AV.inL, AV.inE, inE_map]) (by simp [he0])⟩
 ·
  have c1' := c1
  try simp only [qq] at c1'
  refine aw_exit (aw_seq (aw_region ?_))
  refine mvr (lr _) rfl (sq_ev rfl (ev_leq (lr _) (lr _)) ?_)
  refine asr (lr _) rfl (sq_nil (aw_ret ?_))
  exact retQ_pure (v := .raw _) rfl rfl (Less.eq (by rw [scOK_end hk c1' hok]))
theorem plan_pure (p : Pl) (hl : p.scenes.length ≤ 1000000) : APure Tryz.prog 24 [plan p] (B (PlOK p)) := by
 refine apure_of (rs := [.tmp 2]) Tryz.func24 rfl rfl (Nat.le_of_ble_eq_true rfl) (by simp [AV.pureL, AV.pureB, AV.pureE, pureE_map]) (rfl) fun e0 he0 => ?_
 refine aw_seq (aw_region ?_)
 refine sq_box rfl (lr _) rfl (asr (lr _) rfl (sq_nil (aw_seq (aw_region ?_))))
 refine sq_ev rfl (ev_fieldAddr fo27_0 (lr _)) ?_
 refine sq_ev rfl (ev_load (lr _) rfl ty3 rfl) ?_
 refine sq_ev rfl (ev_call en89 (lr _) (in_pure _ _ _) ⟨lr _, lr _, lr _, trivial⟩) ?_
 refine mvr (lr _) rfl ?_
 refine sq_split 6 (lr _) (fun g1 => ?_) (fun g1 => ?_)
 ·
  have g1' := g1
  try simp only [qq] at g1'
  refine sq_yes rfl rfl (less_b g1) rfl (ev_fieldAddr fo27_1 (lr _)) ?_
  refine sq_yes rfl rfl (less_b g1) rfl (ev_index_box ar24 (lr _) (lr _) rfl (by decide)) ?_
  refine sq_yes rfl rfl (less_b g1) rfl (ev_load_agg (lr _) rfl ty23 rfl) ?_
  refine sq_yes rfl rfl (less_b g1) rfl (ev_call en90 (lr _) (window_pure _ _) ⟨lr _, trivial⟩) ?_
  refine sq_ev rfl (ev_pickT (v := .raw _) (less_b g1) (lr _)) ?_
  refine mvr (lr _) rfl ?_
  refine sq_split 12 (lr _) (fun g2 => ?_) (fun g2 => ?_)
  ·
   have g2' := g2
   try simp only [qq] at g2'
   refine sq_yes rfl rfl (less_b g2) rfl (ev_fieldAddr fo27_1 (lr _)) ?_
   refine sq_yes rfl rfl (less_b g2) rfl (ev_index_box ar24 (lr _) (lr _) rfl (by decide)) ?_
   refine sq_yes rfl rfl (less_b g2) rfl (ev_load_agg (lr _) rfl ty23 rfl) ?_
   refine sq_yes rfl rfl (less_b g2) rfl (ev_call en90 (lr _) (window_pure _ _) ⟨lr _, trivial⟩) ?_
   refine sq_ev rfl (ev_pickT (v := .raw _) (less_b g2) (lr _)) ?_
   refine mvr (lr _) rfl ?_
   refine sq_split 18 (lr _) (fun g3 => ?_) (fun g3 => ?_)
   ·
    have g3' := g3
    try simp only [qq] at g3'
    refine sq_yes rfl rfl (less_b g3) rfl (ev_fieldAddr fo27_2 (lr _)) ?_
    refine sq_yes rfl rfl (less_b g3) rfl (ev_load_agg (lr _) rfl ty23 rfl) ?_
    refine sq_yes rfl rfl (less_b g3) rfl (ev_call en90 (lr _) (window_pure _ _) ⟨lr _, trivial⟩) ?_
    refine sq_ev rfl (ev_pickT (v := .raw _) (less_b g3) (lr _)) ?_
    refine mvr (lr _) rfl ?_
    refine sq_split 23 (lr _) (fun g4 => ?_) (fun g4 => ?_)
    ·
     have g4' := g4
     try simp only [qq] at g4'
     refine sq_yes rfl rfl (less_b g4) rfl (ev_fieldAddr fo27_3 (lr _)) ?_
     refine sq_yes rfl rfl (less_b g4) rfl (ev_load (lr _) rfl ty25 rfl) ?_
     refine sq_yes rfl rfl (less_b g4) rfl (ev_len_map sl25 (lr _)) ?_
     refine sq_yes rfl rfl (less_b g4) rfl (ev_call en89 (lr _) (in_pure _ _ _) ⟨lr _, lr _, lr _, trivial⟩) ?_
     refine sq_ev rfl (ev_pickT (v := .raw _) (less_b g4) (lr _)) ?_
     refine mvr (lr _) rfl ?_
     refine sq_split 29 (lr _) (fun g5 => ?_) (fun g5 => ?_)
     ·
      have g5' := g5
      try simp only [qq] at g5'
      refine sq_yes rfl rfl (less_b g5) rfl (ev_load_agg (lr _) rfl ty27 rfl) ?_
      refine sq_yes rfl rfl (less_b g5) rfl (ev_call en91 (lr _) (scenes_pure _ hl) ⟨lr _, trivial⟩) ?_
      refine sq_ev rfl (ev_pickT (v := .raw _) (less_b g5) (lr _)) ?_
      refine asr (lr _) rfl (sq_nil (aw_ret ?_))
      exact retQ_pure (v := .raw _) rfl rfl (Less.eq (by simp [PlOK, *]))
     ·
      have g5' := g5
      try simp only [qq] at g5'
      refine sq_no rfl rfl (less_b g5) rfl rfl ?_
      refine sq_no rfl rfl (less_b g5) rfl rfl ?_
      refine sq_ev rfl (ev_pickF (v := .raw _) (less_b g5) (lr _)) ?_
      refine asr (lr _) rfl (sq_nil (aw_ret ?_))
      exact retQ_pure (v := .raw _) rfl rfl (Less.eq (by simp [PlOK, *]))
    ·
     have g4' := g4
     try simp only [qq] at g4'
     refine sq_no rfl rfl (less_b g4) rfl rfl ?_
     refine sq_no rfl rfl (less_b g4) rfl rfl ?_
     refine sq_no rfl rfl (less_b g4) rfl rfl ?_
     refine sq_no rfl rfl (less_b g4) rfl rfl ?_
     refine sq_ev rfl (ev_pickF (v := .raw _) (less_b g4) (lr _)) ?_
     refine mvr (lr _) rfl (sq_no rfl rfl (lr _) rfl rfl (sq_no rfl rfl (lr _) rfl rfl (pf rfl (lr _) (lr _) (asr (lr _) rfl (sq_nil (aw_ret ?_))))))
     exact retQ_pure (v := .raw _) rfl rfl (Less.eq (by simp [PlOK, *]))
   ·
    have g3' := g3
    try simp only [qq] at g3'
    refine sq_no rfl rfl (less_b g3) rfl rfl ?_
    refine sq_no rfl rfl (less_b g3) rfl rfl ?_
    refine sq_no rfl rfl (less_b g3) rfl rfl ?_
    refine sq_ev rfl (ev_pickF (v := .raw _) (less_b g3) (lr _)) ?_
    refine mvr (lr _) rfl (sq_no rfl rfl (lr _) rfl rfl (sq_no rfl rfl (lr _) rfl rfl (sq_no rfl rfl (lr _) rfl rfl (sq_no rfl rfl (lr _) rfl rfl (pf rfl (lr _) (lr _) ?_)))))
    refine mvr (lr _) rfl (sq_no rfl rfl (lr _) rfl rfl (sq_no rfl rfl (lr _) rfl rfl (pf rfl (lr _) (lr _) (asr (lr _) rfl (sq_nil (aw_ret ?_))))))
    exact retQ_pure (v := .raw _) rfl rfl (Less.eq (by simp [PlOK, *]))
  ·
   have g2' := g2
   try simp only [qq] at g2'
   refine sq_no rfl rfl (less_b g2) rfl rfl ?_
   refine sq_no rfl rfl (less_b g2) rfl rfl ?_
   refine sq_no rfl rfl (less_b g2) rfl rfl ?_
   refine sq_no rfl rfl (less_b g2) rfl rfl ?_
   refine sq_ev rfl (ev_pickF (v := .raw _) (less_b g2) (lr _)) ?_
   refine mvr (lr _) rfl (sq_no rfl rfl (lr _) rfl rfl (sq_no rfl rfl (lr _) rfl rfl (sq_no rfl rfl (lr _) rfl rfl ?_)))
   refine pf rfl (lr _) (lr _) (mvr (lr _) rfl (sq_no rfl rfl (lr _) rfl rfl (sq_no rfl rfl (lr _) rfl rfl (sq_no rfl rfl (lr _) rfl rfl (sq_no rfl rfl (lr _) rfl rfl (pf rfl (lr _) (lr _) ?_))))))
   refine mvr (lr _) rfl (sq_no rfl rfl (lr _) rfl rfl (sq_no rfl rfl (lr _) rfl rfl (pf rfl (lr _) (lr _) (asr (lr _) rfl (sq_nil (aw_ret ?_))))))
   exact retQ_pure (v := .raw _) rfl rfl (Less.eq (by simp [PlOK, *]))
 ·
  have g1' := g1
  try simp only [qq] at g1'
  refine sq_no rfl rfl (less_b g1) rfl rfl ?_
  refine sq_no rfl rfl (less_b g1) rfl rfl ?_
  refine sq_no rfl rfl (less_b g1) rfl rfl ?_
  refine sq_no rfl rfl (less_b g1) rfl rfl ?_
  refine sq_ev rfl (ev_pickF (v := .raw _) (less_b g1) (lr _)) ?_
  refine mvr (lr _) rfl (sq_no rfl rfl (lr _) rfl rfl (sq_no rfl rfl (lr _) rfl rfl ?_))
  refine sq_no rfl rfl (lr _) rfl rfl (sq_no rfl rfl (lr _) rfl rfl (pf rfl (lr _) (lr _) (mvr (lr _) rfl (sq_no rfl rfl (lr _) rfl rfl (sq_no rfl rfl (lr _) rfl rfl (sq_no rfl rfl (lr _) rfl rfl ?_))))))
  refine pf rfl (lr _) (lr _) (mvr (lr _) rfl (sq_no rfl rfl (lr _) rfl rfl (sq_no rfl rfl (lr _) rfl rfl (sq_no rfl rfl (lr _) rfl rfl (sq_no rfl rfl (lr _) rfl rfl (pf rfl (lr _) (lr _) ?_))))))
  refine mvr (lr _) rfl (sq_no rfl rfl (lr _) rfl rfl (sq_no rfl rfl (lr _) rfl rfl (pf rfl (lr _) (lr _) (asr (lr _) rfl (sq_nil (aw_ret ?_))))))
  exact retQ_pure (v := .raw _) rfl rfl (Less.eq (by simp [PlOK, *]))
end Go.Proofs.YtjghdbdiejaacaaGreatDoor
namespace Go.Proofs.YtjghdbdiejaacaaGreatDoor
open Go Go.Ab Ni
theorem wordL_len (x : Sc) : (wordL x).length ≤ 6 := by unfold wordL; split <;> decide
end Go.Proofs.YtjghdbdiejaacaaGreatDoor
namespace Go.Proofs.YtjghdbdiejaacaaGreatDoor
open Go Go.Ab Ni
section
variable {r : Option Nat} {H : List AObj} {ρ : Operand → AV} {d : Option Tmp} {t : TypeId} {p : String} {af : Array Edge} {g : Option (Nat × Bool)} {x y : Operand} {yt : TypeId} {a b c e : Int}
theorem ev_span_eql (hx : Less (ρ x) (.agg [I a, I b])) (hy : Less (ρ y) (.agg [I c, I e])) : Ev Tryz.prog r ⟨d, .binOp .eql 23 x y yt, t, p, af, g⟩ H ρ (B (decide (a = c) && decide (b = e))) :=
  ev_eql_agg (by kernel_rfl) (spanEq a b c e) (Less.trans hx (less_agg_raw (vs := [.int .i64 a, .int .i64 b]) rfl)) (Less.trans hy (less_agg_raw (vs := [.int .i64 c, .int .i64 e]) rfl))
end
theorem rshort_pure (p : Pl) : APure Tryz.prog 20 [plan p] (B (decide (p.scenes.length ≤ 12))) := by
 refine apure_of (rs := [.tmp 2]) Tryz.func20 rfl rfl (Nat.le_of_ble_eq_true rfl) (by simp [AV.pureL, AV.pureB, AV.pureE, pureE_map]) (rfl) fun e0 he0 => ?_
 refine aw_seq (aw_region ?_)
 refine sq_box rfl (lr _) rfl (asr (lr _) rfl (sq_nil (aw_seq (aw_region ?_))))
 refine sq_ev rfl (ev_fieldAddr fo27_3 (lr _)) ?_
 refine sq_ev rfl (ev_load (lr _) rfl ty25 rfl) ?_
 refine sq_ev rfl (ev_len_map sl25 (lr _)) ?_
 refine sq_ev rfl (ev_leq (lr _) (lr _)) ?_
 refine asr (lr _) rfl (sq_nil (aw_ret ?_))
 exact retQ_pure (v := .raw _) rfl rfl (Less.eq (by simp; omega))
end Go.Proofs.YtjghdbdiejaacaaGreatDoor
namespace Go.Proofs.YtjghdbdiejaacaaGreatDoor
open Go Go.Ab Ni
theorem en20 : Ent Tryz.prog 20 := Ent.of Tryz.func20 (by kernel_rfl) rfl
theorem en21 : Ent Tryz.prog 21 := Ent.of Tryz.func21 (by kernel_rfl) rfl
theorem en24 : Ent Tryz.prog 24 := Ent.of Tryz.func24 (by kernel_rfl) rfl
theorem short_no {p : Pl} (h : ¬ p.scenes.length ≤ 12) : APure Tryz.prog 20 [plan p] (B false) := by have := rshort_pure p; simpa [h] using this
theorem short_yes {p : Pl} (h : p.scenes.length ≤ 12) : APure Tryz.prog 20 [plan p] (B true) := by have := rshort_pure p; simpa [h] using this
theorem plan_no {p : Pl} (hs : p.scenes.length ≤ 12) (h : PlOK p = false) : APure Tryz.prog 24 [plan p] (B false) := by have := plan_pure p (by omega); rwa [h] at this
theorem plan_yes {p : Pl} (hs : p.scenes.length ≤ 12) (h : PlOK p = true) : APure Tryz.prog 24 [plan p] (B true) := by have := plan_pure p (by omega); rwa [h] at this
end Go.Proofs.YtjghdbdiejaacaaGreatDoor
namespace Go.Proofs.YtjghdbdiejaacaaGreatDoor
open Go Go.Ab Ni
theorem cut_app {c : UInt8} : ∀ {w r : List UInt8}, c ∉ w → cut c (w ++ c :: r) = w :: cut c r
  | [], r, _ => by simp [cut]
  | b :: w, r, h => by
    rw [List.cons_append, cut, if_neg (fun e => h (by simp [e])), cut_app (fun k => h (List.mem_cons_of_mem _ k))]
theorem cut_out {c : UInt8} : ∀ {ls : List (List UInt8)} {r : List UInt8}, (∀ l ∈ ls, c ∉ l) → cut c ((ls.map fun l => l ++ [c]).flatten ++ r) = ls ++ cut c r
  | [], r, _ => by simp
  | l :: ls, r, h => by
    have e : ((l :: ls).map fun l => l ++ [c]).flatten ++ r = l ++ c :: ((ls.map fun l => l ++ [c]).flatten ++ r) := by simp
    rw [e, cut_app (h l (by simp)), cut_out (fun y hy => h y (List.mem_cons_of_mem _ hy))]; rfl
theorem itoa_fin : ∀ n : Fin 1000, numOf (Lib.itoa (n.val : Int)) = some (n.val : Int) ∧ (Lib.itoa (n.val : Int)).all isD = true ∧ (Lib.itoa (n.val : Int)).length ≤ 3 := by decide +kernel
theorem itoa_three {n : Int} (h : 0 ≤ n ∧ n ≤ 999) : numOf (Lib.itoa n) = some n ∧ (Lib.itoa n).all isD = true ∧ (Lib.itoa n).length ≤ 3 := by
  have := itoa_fin ⟨n.toNat, by omega⟩
  rwa [show ((⟨n.toNat, by omega⟩ : Fin 1000).val : Int) = n from (by simp; omega)] at this
theorem itoa_not {n : Int} (h : 0 ≤ n ∧ n ≤ 999) {c : UInt8} (hc : isD c = false) : c ∉ Lib.itoa n := fun k => by
  have := List.all_eq_true.1 (itoa_three h).2.1 c k
  rw [hc] at this; cases this
theorem numsL_map (l : List Int) : numsL l = ((l.map Lib.itoa).map fun x => 32 :: x).flatten := by unfold numsL; rw [List.map_map]; rfl
/-- a plan whose numbers have three digits at the most -/
structure TdP (p : Pl) : Prop where
  head : ∀ n ∈ headL p, 0 ≤ n ∧ n ≤ 999
  sc : ∀ x ∈ p.scenes, (0 ≤ x.part ∧ x.part ≤ 999) ∧ (0 ≤ x.least ∧ x.least ≤ 999) ∧ (0 ≤ x.most ∧ x.most ≤ 999) ∧ -1 ≤ x.wants ∧ x.wants ≤ 999
  len : p.scenes.length ≤ 1000
theorem td_told {p : Pl} (td : TdP p) {x : Sc} (hx : x ∈ p.scenes) : ∀ n ∈ toldL x, 0 ≤ n ∧ n ≤ 999 := fun n hn => by
  obtain ⟨h1, h2, h3, h4⟩ := td.sc x hx
  unfold toldL at hn
  rcases List.mem_append.1 hn with hn | hn
  · simp only [List.mem_cons, List.not_mem_nil, or_false] at hn; rcases hn with rfl | rfl | rfl <;> assumption
  · split at hn
    · simp only [List.mem_cons, List.not_mem_nil, or_false] at hn; subst hn; omega
    · simp at hn
theorem td_sm {p : Pl} (td : TdP p) : SmP p := ⟨fun n h => by have := td.head n h; omega, fun x hx n hn => by have := td_told td hx n hn; omega, td.len⟩
theorem ok_td {p : Pl} (h : PlOK p = true) : TdP p := by
  unfold PlOK at h
  simp only [Bool.and_eq_true, decide_eq_true_eq, wnd, inn] at h
  obtain ⟨⟨⟨⟨⟨h0, h1⟩, h2⟩, h3⟩, h4⟩, h5, _⟩ := h
  refine ⟨fun n hn => ?_, fun x hx => ?_, by omega⟩
  · rw [headL_eq] at hn
    simp only [List.mem_cons, List.not_mem_nil, or_false] at hn
    rcases hn with rfl | rfl | rfl | rfl | rfl | rfl | rfl <;> omega
  · obtain ⟨i, hi, rfl⟩ := List.getElem_of_mem hx
    have := h5 i hi
    simp only [scBad, inn, Bool.or_eq_false_iff, Bool.not_eq_false', Bool.and_eq_true, decide_eq_true_eq] at this
    omega
def wordsL (x : Sc) : List (List UInt8) := (toldL x).map Lib.itoa ++ (if 0 ≤ x.wants then [] else [[45]])
theorem line_join (p : Pl) (x : Sc) : lineL p (some x) = wordL x ++ ((wordsL x).map fun w => 32 :: w).flatten := by
  unfold lineL wordsL wordL
  simp only [numsL_map, List.map_append, List.flatten_append, List.append_assoc]
  congr 2
  split <;> rfl
theorem words_not {p : Pl} (td : TdP p) {x : Sc} (hx : x ∈ p.scenes) {c : UInt8} (hc : isD c = false) (h45 : c ≠ 45) : ∀ w ∈ wordsL x, c ∉ w := fun w hw => by
  unfold wordsL at hw
  rcases List.mem_append.1 hw with hw | hw
  · obtain ⟨n, hn, rfl⟩ := List.mem_map.1 hw
    exact itoa_not (td_told td hx n hn) hc
  · split at hw
    · cases hw
    · simp only [List.mem_cons, List.not_mem_nil, or_false] at hw; subst hw; simpa using h45
theorem word_not (x : Sc) {c : UInt8} (h1 : c ∉ wBattle) (h2 : c ∉ wScene) : c ∉ wordL x := by unfold wordL; split <;> assumption
theorem linesL_eq (p : Pl) : linesL p = lineL p none :: p.scenes.map fun x => lineL p (some x) := by
  unfold linesL rowsL rowsT; rw [List.take_length, List.map_cons, List.map_map]; rfl
theorem head_join (p : Pl) : lineL p none = wNight ++ (((headL p).map Lib.itoa).map fun w => 32 :: w).flatten := by unfold lineL; rw [numsL_map]
theorem mem_join {c : UInt8} (hc : c ≠ 32) {ws : List (List UInt8)} {w : List UInt8} (h : c ∉ w) (k : ∀ x ∈ ws, c ∉ x) : c ∉ w ++ (ws.map fun x => 32 :: x).flatten := fun hm => by
  rcases List.mem_append.1 hm with hm | hm
  · exact h hm
  · obtain ⟨y, hy, hm⟩ := List.mem_flatten.1 hm
    obtain ⟨x, hx, rfl⟩ := List.mem_map.1 hy
    rcases List.mem_cons.1 hm with hm | hm
    · exact hc hm
    · exact k x hx hm
theorem head_not {p : Pl} (td : TdP p) {c : UInt8} (hc : isD c = false) : ∀ w ∈ (headL p).map Lib.itoa, c ∉ w := fun w hw => by
  obtain ⟨n, hn, rfl⟩ := List.mem_map.1 hw
  exact itoa_not (td.head n hn) hc
theorem lines_not {p : Pl} (td : TdP p) : ∀ l ∈ linesL p, (10 : UInt8) ∉ l := fun l hl => by
  rw [linesL_eq] at hl
  rcases List.mem_cons.1 hl with rfl | hl
  · rw [head_join]; exact mem_join (by decide) (by decide) (head_not td (by decide))
  · obtain ⟨x, hx, rfl⟩ := List.mem_map.1 hl
    rw [line_join]; exact mem_join (by decide) (word_not x (by decide) (by decide)) (words_not td hx (by decide) (by decide))
def endL (c : Int) : List UInt8 := [101, 110, 100, 32] ++ digs3 c
theorem end_not {c : Int} (h : 0 ≤ c ∧ c ≤ 999) : (10 : UInt8) ∉ endL c := by
  have a1 := itoa_not (n := c / 100) (by omega) (c := 10) (by decide)
  have a2 := itoa_not (n := c / 10 % 10) (by omega) (c := 10) (by decide)
  have a3 := itoa_not (n := c % 10) (by omega) (c := 10) (by decide)
  unfold endL digs3
  simp [a1, a2, a3]
theorem seal_cut {ls : List (List UInt8)} (h : ∀ l ∈ ls, (10 : UInt8) ∉ l) : cut 10 (sealL ls) = ls ++ [endL (ctT ls ls.length % 181), []] := by
  have e : sealL ls = (ls.map fun l => l ++ [10]).flatten ++ (endL (ctT ls ls.length % 181) ++ 10 :: []) := by
    unfold sealL outT endL; rw [List.take_length]; simp
  rw [e, cut_out h, cut_app (end_not (by omega))]; rfl
theorem joinlen {ws : List (List UInt8)} (h : ∀ w ∈ ws, w.length ≤ 3) : ((ws.map fun w => (32 : UInt8) :: w).flatten).length ≤ 4 * ws.length := by
  induction ws with
  | nil => simp
  | cons w ws ih =>
    have h1 := h w (by simp)
    have h2 := ih (fun x hx => h x (List.mem_cons_of_mem _ hx))
    simp only [List.map_cons, List.flatten_cons, List.length_append, List.length_cons]
    omega
theorem outlen {ls : List (List UInt8)} {B : Nat} (h : ∀ l ∈ ls, l.length ≤ B) : ((ls.map fun l => l ++ [10]).flatten).length ≤ (B + 1) * ls.length := by
  induction ls with
  | nil => simp
  | cons w ws ih =>
    have h1 := h w (by simp)
    have h2 := ih (fun x hx => h x (List.mem_cons_of_mem _ hx))
    simp only [List.map_cons, List.flatten_cons, List.length_append, List.length_cons, Nat.mul_add]
    simp only [List.length_nil]
    omega
theorem scene_len {p : Pl} (td : TdP p) {x : Sc} (hx : x ∈ p.scenes) : (lineL p (some x)).length ≤ 22 := by
  rw [line_join, List.length_append]
  have h1 := wordL_len x
  have h2 := joinlen (ws := wordsL x) (fun w hw => by
    unfold wordsL at hw
    rcases List.mem_append.1 hw with hw | hw
    · obtain ⟨n, hn, rfl⟩ := List.mem_map.1 hw; exact (itoa_three (td_told td hx n hn)).2.2
    · split at hw
      · cases hw
      · simp only [List.mem_cons, List.not_mem_nil, or_false] at hw; subst hw; decide)
  have h3 : (wordsL x).length = 4 := by unfold wordsL toldL; split <;> simp
  omega
theorem sheet_len {p : Pl} (td : TdP p) : (sheetL p).length ≤ 48 + 23 * p.scenes.length := by
  have e : sheetL p = lineL p none ++ [10] ++ ((p.scenes.map fun x => lineL p (some x)).map fun l => l ++ [10]).flatten ++ [101, 110, 100, 32] ++ digs3 (ctT (linesL p) (linesL p).length % 181) ++ [10] := by
    unfold sheetL sealL outT; rw [List.take_length, linesL_eq]; simp
  have h1 := outlen (ls := p.scenes.map fun x => lineL p (some x)) (B := 22) (fun l hl => by obtain ⟨x, hx, rfl⟩ := List.mem_map.1 hl; exact scene_len td hx)
  have h2 : (lineL p none).length ≤ 33 := by
    rw [head_join, List.length_append]
    have := joinlen (ws := (headL p).map Lib.itoa) (fun w hw => by obtain ⟨n, hn, rfl⟩ := List.mem_map.1 hw; exact (itoa_three (td.head n hn)).2.2)
    have h7 : ((headL p).map Lib.itoa).length = 7 := by rw [headL_eq]; rfl
    have : wNight.length = 5 := rfl
    omega
  have h3 : (digs3 (ctT (linesL p) (linesL p).length % 181)).length ≤ 3 + 6 := by
    unfold digs3; simp only [List.length_append]
    have a1 := (itoa_three (n := ctT (linesL p) (linesL p).length % 181 / 100) (by omega)).2.2
    have a2 := (itoa_three (n := ctT (linesL p) (linesL p).length % 181 / 10 % 10) (by omega)).2.2
    have a3 := (itoa_three (n := ctT (linesL p) (linesL p).length % 181 % 10) (by omega)).2.2
    omega
  rw [e]
  simp only [List.length_append, List.length_cons, List.length_nil, List.length_map] at h1 ⊢
  omega
end Go.Proofs.YtjghdbdiejaacaaGreatDoor
namespace Go.Proofs.YtjghdbdiejaacaaGreatDoor
open Go Go.Ab Ni
theorem en118 : Ent Tryz.prog 118 := Ent.of Tryz.func118 (by kernel_rfl) rfl
theorem en50 : Ent Tryz.prog 50 := Ent.of Tryz.func50 (by kernel_rfl) rfl
theorem en53 : Ent Tryz.prog 53 := Ent.of Tryz.func53 (by kernel_rfl) rfl
theorem ty24 : tySz Tryz.prog 24 = some (true, 4) := by kernel_rfl
abbrev scVals (x : Sc) : Array Value := #[.int .i64 x.part, .int .i64 x.least, .int .i64 x.most, .bool x.loose, .int .i64 x.wants]
theorem scEq (a b : Sc) (w : World) : (Op.equalIn 10000 84 (.agg (scVals a)) (.agg (scVals b))).run Tryz.prog w = .ok (decide (a = b)) w := by
  have h3 : Tryz.prog.underlying 3 = some (.int .i64) := Tryz.underlying3
  have h4 : Tryz.prog.underlying 4 = some .bool := Tryz.underlying4
  rw [run_equalIn_struct w 9999 84 _ _ (by rw [fieldsOf_st Tryz.underlying84]; exact Tryz.underlying84) (by kernel_rfl), fieldsOf_st Tryz.underlying84]
  have q0 : ∀ (x : Sc) (w : World), (part 3 (scVals x) 0).run Tryz.prog w = .ok (.int .i64 x.part) w := fun x w => by simp [part, Tryz.isAgg3]
  have q1 : ∀ (x : Sc) (w : World), (part 3 (scVals x) 1).run Tryz.prog w = .ok (.int .i64 x.least) w := fun x w => by simp [part, Tryz.isAgg3]
  have q2 : ∀ (x : Sc) (w : World), (part 3 (scVals x) 2).run Tryz.prog w = .ok (.int .i64 x.most) w := fun x w => by simp [part, Tryz.isAgg3]
  have q3 : ∀ (x : Sc) (w : World), (part 4 (scVals x) 3).run Tryz.prog w = .ok (.bool x.loose) w := fun x w => by simp [part, Tryz.isAgg4]
  have q4 : ∀ (x : Sc) (w : World), (part 3 (scVals x) 4).run Tryz.prog w = .ok (.int .i64 x.wants) w := fun x w => by simp [part, Tryz.isAgg3]
  simp [Op.eqFields, q0, q1, q2, q3, q4, run_equalIn_int _ _ _ _ _ _ _ h3, run_equalIn_bool' _ _ _ _ _ h4]
  obtain ⟨a1, a2, a3, a4, a5⟩ := a
  obtain ⟨b1, b2, b3, b4, b5⟩ := b
  simp only [Sc.mk.injEq]
  by_cases e1 : a1 = b1 <;> by_cases e2 : a2 = b2 <;> by_cases e3 : a3 = b3 <;> by_cases e4 : a4 = b4 <;> by_cases e5 : a5 = b5 <;> simp [e1, e2, e3, e4, e5]
theorem spanEqD (n : Nat) (a b c d : Int) (w : World) : (Op.equalIn (n + 2) 23 (.agg #[.int .i64 a, .int .i64 b]) (.agg #[.int .i64 c, .int .i64 d])).run Tryz.prog w = .ok (decide (a = c) && decide (b = d)) w := by
  have h3 : Tryz.prog.underlying 3 = some (.int .i64) := Tryz.underlying3
  rw [run_equalIn_struct w (n + 1) 23 _ _ (by rw [fieldsOf_st Tryz.underlying23]; exact Tryz.underlying23) (by kernel_rfl), fieldsOf_st Tryz.underlying23]
  have p0 : ∀ (x y : Int) (w : World), (part 3 #[.int .i64 x, .int .i64 y] 0).run Tryz.prog w = .ok (.int .i64 x) w := fun x y w => by
    simp [part, Tryz.isAgg3]
  have p1 : ∀ (x y : Int) (w : World), (part 3 #[.int .i64 x, .int .i64 y] 1).run Tryz.prog w = .ok (.int .i64 y) w := fun x y w => by
    simp [part, Tryz.isAgg3]
  simp [Op.eqFields, p0, p1, run_equalIn_int _ _ _ _ _ _ _ h3]
  by_cases h1 : a = c <;> by_cases h2 : b = d <;> simp [h1, h2]
theorem arrEq (a b c d a' b' c' d' : Int) (w : World) : (Op.equalIn 10000 24 (.agg #[.int .i64 a, .int .i64 b, .int .i64 c, .int .i64 d]) (.agg #[.int .i64 a', .int .i64 b', .int .i64 c', .int .i64 d'])).run Tryz.prog w = .ok (decide (a = a' ∧ b = b' ∧ c = c' ∧ d = d')) w := by
  obtain ⟨i, hi⟩ : ∃ i, Tryz.prog.info? 23 = some i := Option.isSome_iff_exists.1 (by kernel_rfl)
  rw [run_equalIn_array w 9999 _ _ Tryz.underlying24 hi, show Tryz.prog.cellsOf 23 = 2 by kernel_rfl, show List.range 2 = [0, 1] from rfl]
  have p0 : ∀ (x y z u : Int) (w : World), (part 23 #[.int .i64 x, .int .i64 y, .int .i64 z, .int .i64 u] 0).run Tryz.prog w = .ok (.agg #[.int .i64 x, .int .i64 y]) w := fun x y z u w => by
    simp [part, Tryz.isAgg23, Tryz.sizeOf23]
  have p2 : ∀ (x y z u : Int) (w : World), (part 23 #[.int .i64 x, .int .i64 y, .int .i64 z, .int .i64 u] 2).run Tryz.prog w = .ok (.agg #[.int .i64 z, .int .i64 u]) w := fun x y z u w => by
    simp [part, Tryz.isAgg23, Tryz.sizeOf23]
  simp only [Op.eqItems, Nat.zero_mul, Nat.one_mul, Sem.run_bind, p0, p2, Result.andThen_ok, spanEqD 9997]
  by_cases e1 : a = a' <;> by_cases e2 : b = b' <;> by_cases e3 : c = c' <;> by_cases e4 : d = d' <;> simp [e1, e2, e3, e4, p2, spanEqD 9997]
section
variable {r : Option Nat} {H : List AObj} {ρ : Operand → AV} {d : Option Tmp} {t : TypeId} {p : String} {af : Array Edge} {g : Option (Nat × Bool)} {x y : Operand} {yt : TypeId}
theorem ev_sc_neq {a b : Sc} (hx : Less (ρ x) (.agg (sc a))) (hy : Less (ρ y) (.agg (sc b))) : Ev Tryz.prog r ⟨d, .binOp .neq 84 x y yt, t, p, af, g⟩ H ρ (B (!decide (a = b))) :=
  ev_neq_agg (by kernel_rfl) (scEq a b) (Less.trans hx (less_agg_raw (vs := [.int .i64 a.part, .int .i64 a.least, .int .i64 a.most, .bool a.loose, .int .i64 a.wants]) rfl)) (Less.trans hy (less_agg_raw (vs := [.int .i64 b.part, .int .i64 b.least, .int .i64 b.most, .bool b.loose, .int .i64 b.wants]) rfl))
theorem ev_stars_eql {a b c e a' b' c' e' : Int} (hx : Less (ρ x) (.agg [I a, I b, I c, I e])) (hy : Less (ρ y) (.agg [I a', I b', I c', I e'])) : Ev Tryz.prog r ⟨d, .binOp .eql 24 x y yt, t, p, af, g⟩ H ρ (B (decide (a = a' ∧ b = b' ∧ c = c' ∧ e = e'))) :=
  ev_eql_agg (by kernel_rfl) (arrEq a b c e a' b' c' e') (Less.trans hx (less_agg_raw (vs := [.int .i64 a, .int .i64 b, .int .i64 c, .int .i64 e]) rfl)) (Less.trans hy (less_agg_raw (vs := [.int .i64 a', .int .i64 b', .int .i64 c', .int .i64 e']) rfl))
end
def sscBad (a b : List Sc) (h : a.length = b.length) (i : Nat) (hi : i < a.length) : Bool := !decide (a[i] = b[i]'(by omega))
theorem ssc_okAll {a b : List Sc} (h : a.length = b.length) : okAll a.length (sscBad a b h) = decide (a = b) := by
  rw [Bool.eq_iff_iff, okAll_iff, decide_eq_true_eq]
  constructor
  · intro k
    exact List.ext_getElem h fun i h1 h2 => by have := k i h1; simpa [sscBad] using this
  · rintro rfl i hi; simp [sscBad]
theorem pl_eq {a b : Pl} : a = b ↔ (a.beg = b.beg ∧ (a.s0l = b.s0l ∧ a.s0h = b.s0h ∧ a.s1l = b.s1l ∧ a.s1h = b.s1h) ∧ (a.dl = b.dl ∧ a.dh = b.dh) ∧ a.scenes = b.scenes) := by
  cases a; cases b; simp only [Pl.mk.injEq, and_assoc]
theorem pl_dec (a b : Pl) : decide (a = b) = (decide (a.beg = b.beg) && (decide (a.s0l = b.s0l ∧ a.s0h = b.s0h ∧ a.s1l = b.s1l ∧ a.s1h = b.s1h) && ((decide (a.dl = b.dl) && decide (a.dh = b.dh)) && decide (a.scenes = b.scenes)))) := by
  rw [Bool.eq_iff_iff]; simp only [decide_eq_true_eq, Bool.and_eq_true]; exact pl_eq
def printAV (p : Pl) : AV := if PlOK p = true then .tup [S (sheetL p), I 0] else .tup [S [], I 2]
theorem rscs_pure (a b : List Sc) (ha : a.length ≤ 100000000) (hb : b.length ≤ 100000000) : APure Tryz.prog 118 [.sl 5 (a.map sc), .sl 5 (b.map sc)] (B (decide (a = b))) := by
  refine apure_of (rs := [.tmp 4]) Tryz.func118 rfl rfl (Nat.le_of_ble_eq_true rfl) (by simp [AV.pureL, AV.pureB, AV.pureE, pureE_map]) (rfl) fun e0 he0 => ?_
  refine aw_seq (aw_region ?_)
  refine asr (lr _) rfl (sq_nil (aw_seq (aw_seq (aw_region ?_))))
  refine mvs rfl (lr _) (sq_ev rfl (ev_len_map sl25 (lr _)) ?_)
  refine mvs rfl (lr _) (sq_ev rfl (ev_len_map sl25 (lr _)) ?_)
  refine sq_ev rfl (ev_neq (lr _) (lr _)) ?_
  refine sq_nil ?_
  refine aw_cond (lr _) (fun c1 => ?_) (fun c1 => ?_)
  · skip
    have c1' := c1
    try simp only [qq] at c1'
    refine aw_seq (aw_region ?_)
    refine asr (lr _) rfl (sq_nil (aw_ret ?_))
    exact retQ_pure (v := .raw _) rfl rfl (Less.eq (by rw [show decide (a = b) = false from (by simp only [decide_eq_false_iff_not]; rintro rfl; exact c1' rfl)]))
  · skip
    have c1' := c1
    try simp only [qq] at c1'
    have hlen : a.length = b.length := by omega
    refine aw_skip (aw_seq (aw_seq (aw_region ?_)))
    refine asr (lr _) rfl (sq_nil (aw_block ?_))
    refine aw_loopk (ι := { k : Nat // k ≤ a.length ∧ ∀ i, (h : i < a.length) → i < k → sscBad a b hlen i h = false }) [0, 1] (fun i => [(5, I i.1)]) (fun H i => H) (fun i => a.length - i.1) (⟨0, Nat.zero_le _, by omega⟩) ⟨lr _, lr _, lr _, trivial⟩ rfl ?_
    rintro ⟨k, hk, hok⟩
    dsimp only [keepS, St.put, sget, slotsOf, List.map_cons, List.map_nil, List.cons_append, List.nil_append, List.length_cons, List.length_nil, Nat.reduceBEq, Nat.reduceAdd, cond_true, cond_false]
    refine aw_seq (aw_seq (aw_region ?_))
    refine mvr (lr _) rfl (mvs rfl (lr _) (sq_ev rfl (ev_len_map sl25 (lr _)) ?_))
    refine sq_ev rfl (ev_lss (lr _) (lr _)) ?_
    refine sq_nil ?_
    refine aw_cond (lr _) (fun c2 => ?_) (fun c2 => ?_)
    · skip
      have c2' := c2
      try simp only [qq] at c2'
      refine aw_skip (aw_seq (aw_block (aw_seq ?_)))
      refine aw_draw 9 mo (by kernel_rfl) ?_
      refine dr_ev rfl (ev_mv (v := .sl _ _) (lr _)) ?_
      refine dr_ev rfl (ev_mv (v := .raw _) (lr _)) ?_
      refine dr_ev rfl (ev_index_map sl25 (lr _) (lr _) rfl (by omega)) ?_
      refine dr_ev rfl (ev_load_agg_i (lr _) ty84 (Nat.le_of_ble_eq_true rfl)) ?_
      refine dr_ev rfl (ev_mv (v := .sl _ _) (lr _)) ?_
      refine dr_ev rfl (ev_mv (v := .raw _) (lr _)) ?_
      refine dr_ev rfl (ev_index_map sl25 (lr _) (lr _) rfl (by omega)) ?_
      refine dr_ev rfl (ev_load_agg_i (lr _) ty84 (Nat.le_of_ble_eq_true rfl)) ?_
      refine dr_ev rfl (ev_sc_neq (lr _) (lr _)) ?_
      refine dr_end (sq_nil ?_)
      refine aw_cond (lr _) (fun c3 => ?_) (fun c3 => ?_)
      · skip
        have c3' := c3
        try simp only [qq] at c3'
        refine aw_seq (aw_region ?_)
        refine asr (lr _) rfl (sq_nil (aw_ret ?_))
        exact retQ_pure (v := .raw _) rfl rfl (Less.eq (by rw [← ssc_okAll hlen, okAll_bad (i := k) (by omega) (by first | (simp [sscBad, *]; done) | (simp_all [sscBad]; done))]))
      · skip
        have c3' := c3
        try simp only [qq] at c3'
        refine aw_skip (aw_region ?_)
        refine mvr (lr _) rfl (sq_ev rfl (ev_add (lr _) (lr _) (wr (by omega) (by omega))) ?_)
        refine asr (lr _) rfl (sq_nil ?_)
        have hgood : sscBad a b hlen k (by omega) = false := by first | (simp [sscBad, *]; done) | (simp_all [sscBad]; done)
        exact ⟨⟨k + 1, by omega, fun i h hi => (by by_cases e : i = k; (subst e; exact hgood); exact hok i h (by omega))⟩, by simp only; omega, Sub.slots ⟨lr _, lr _, lr _, trivial⟩⟩
    · skip
      have c2' := c2
      try simp only [qq] at c2'
      refine aw_exit (aw_seq (aw_region ?_))
      refine asr (lr _) rfl (sq_nil (aw_ret ?_))
      exact retQ_pure (v := .raw _) rfl rfl (Less.eq (by rw [← ssc_okAll hlen, okAll_end hk c2' hok]))
theorem rplans_pure (a b : Pl) (ha : a.scenes.length ≤ 100000000) (hb : b.scenes.length ≤ 100000000) : APure Tryz.prog 53 [plan a, plan b] (B (decide (a = b))) := by
 refine apure_of (rs := [.tmp 4]) Tryz.func53 rfl rfl (Nat.le_of_ble_eq_true rfl) (by simp [AV.pureL, AV.pureB, AV.pureE, pureE_map]) (rfl) fun e0 he0 => ?_
 refine aw_seq (aw_region ?_)
 refine sq_box rfl (lr _) rfl (sq_box rfl (lr _) rfl (asr (lr _) rfl (sq_nil (aw_seq (aw_region ?_)))))
 refine sq_ev rfl (ev_fieldAddr fo27_0 (lr _)) ?_
 refine sq_ev rfl (ev_load (lr _) rfl ty3 rfl) ?_
 refine sq_ev rfl (ev_fieldAddr fo27_0 (lr _)) ?_
 refine sq_ev rfl (ev_load (lr _) rfl ty3 rfl) ?_
 refine sq_ev rfl (ev_eql (lr _) (lr _)) ?_
 refine mvr (lr _) rfl ?_
 refine sq_split 10 (lr _) (fun g1 => ?_) (fun g1 => ?_)
 ·
  have g1' := g1
  try simp only [qq] at g1'
  refine sq_yes rfl rfl (less_b g1) rfl (ev_fieldAddr fo27_1 (lr _)) ?_
  refine sq_yes rfl rfl (less_b g1) rfl (ev_load_agg (lr _) rfl ty24 rfl) ?_
  refine sq_yes rfl rfl (less_b g1) rfl (ev_fieldAddr fo27_1 (lr _)) ?_
  refine sq_yes rfl rfl (less_b g1) rfl (ev_load_agg (lr _) rfl ty24 rfl) ?_
  refine sq_yes rfl rfl (less_b g1) rfl (ev_stars_eql (lr _) (lr _)) ?_
  refine sq_ev rfl (ev_pickT (v := .raw _) (less_b g1) (lr _)) ?_
  refine mvr (lr _) rfl ?_
  refine sq_split 17 (lr _) (fun g2 => ?_) (fun g2 => ?_)
  ·
   have g2' := g2
   try simp only [qq] at g2'
   refine sq_yes rfl rfl (less_b g2) rfl (ev_fieldAddr fo27_2 (lr _)) ?_
   refine sq_yes rfl rfl (less_b g2) rfl (ev_load_agg (lr _) rfl ty23 rfl) ?_
   refine sq_yes rfl rfl (less_b g2) rfl (ev_fieldAddr fo27_2 (lr _)) ?_
   refine sq_yes rfl rfl (less_b g2) rfl (ev_load_agg (lr _) rfl ty23 rfl) ?_
   refine sq_yes rfl rfl (less_b g2) rfl (ev_span_eql (lr _) (lr _)) ?_
   refine sq_ev rfl (ev_pickT (v := .raw _) (less_b g2) (lr _)) ?_
   refine mvr (lr _) rfl ?_
   refine sq_split 24 (lr _) (fun g3 => ?_) (fun g3 => ?_)
   ·
    have g3' := g3
    try simp only [qq] at g3'
    refine sq_yes rfl rfl (less_b g3) rfl (ev_fieldAddr fo27_3 (lr _)) ?_
    refine sq_yes rfl rfl (less_b g3) rfl (ev_load (lr _) rfl ty25 rfl) ?_
    refine sq_yes rfl rfl (less_b g3) rfl (ev_fieldAddr fo27_3 (lr _)) ?_
    refine sq_yes rfl rfl (less_b g3) rfl (ev_load (lr _) rfl ty25 rfl) ?_
    refine sq_yes rfl rfl (less_b g3) rfl (ev_call en118 (lr _) (rscs_pure a.scenes b.scenes ha hb) ⟨lr _, lr _, trivial⟩) ?_
    refine sq_ev rfl (ev_pickT (v := .raw _) (less_b g3) (lr _)) ?_
    refine asr (lr _) rfl (sq_nil (aw_ret ?_))
    exact retQ_pure (v := .raw _) rfl rfl (Less.eq (by rw [pl_dec]; simp_all))
   ·
    have g3' := g3
    try simp only [qq] at g3'
    refine sq_no rfl rfl (less_b g3) rfl rfl ?_
    refine sq_no rfl rfl (less_b g3) rfl rfl ?_
    refine sq_no rfl rfl (less_b g3) rfl rfl ?_
    refine sq_no rfl rfl (less_b g3) rfl rfl ?_
    refine sq_no rfl rfl (less_b g3) rfl rfl ?_
    refine sq_ev rfl (ev_pickF (v := .raw _) (less_b g3) (lr _)) ?_
    refine asr (lr _) rfl (sq_nil (aw_ret ?_))
    exact retQ_pure (v := .raw _) rfl rfl (Less.eq (by rw [pl_dec]; simp_all))
  ·
   have g2' := g2
   try simp only [qq] at g2'
   refine sq_no rfl rfl (less_b g2) rfl rfl ?_
   refine sq_no rfl rfl (less_b g2) rfl rfl ?_
   refine sq_no rfl rfl (less_b g2) rfl rfl ?_
   refine sq_no rfl rfl (less_b g2) rfl rfl ?_
   refine sq_no rfl rfl (less_b g2) rfl rfl ?_
   refine sq_ev rfl (ev_pickF (v := .raw _) (less_b g2) (lr _)) ?_
   refine mvr (lr _) rfl (sq_no rfl rfl (lr _) rfl rfl (sq_no rfl rfl (lr _) rfl rfl ?_))
   refine sq_no rfl rfl (lr _) rfl rfl (sq_no rfl rfl (lr _) rfl rfl (sq_no rfl rfl (lr _) rfl rfl (pf rfl (lr _) (lr _) (asr (lr _) rfl (sq_nil (aw_ret ?_))))))
   exact retQ_pure (v := .raw _) rfl rfl (Less.eq (by rw [pl_dec]; simp_all))
 ·
  have g1' := g1
  try simp only [qq] at g1'
  refine sq_no rfl rfl (less_b g1) rfl rfl ?_
  refine sq_no rfl rfl (less_b g1) rfl rfl ?_
  refine sq_no rfl rfl (less_b g1) rfl rfl ?_
  refine sq_no rfl rfl (less_b g1) rfl rfl ?_
  refine sq_no rfl rfl (less_b g1) rfl rfl ?_
  refine sq_ev rfl (ev_pickF (v := .raw _) (less_b g1) (lr _)) ?_
  refine mvr (lr _) rfl (sq_no rfl rfl (lr _) rfl rfl (sq_no rfl rfl (lr _) rfl rfl ?_))
  refine sq_no rfl rfl (lr _) rfl rfl (sq_no rfl rfl (lr _) rfl rfl (sq_no rfl rfl (lr _) rfl rfl (pf rfl (lr _) (lr _) (mvr (lr _) rfl (sq_no rfl rfl (lr _) rfl rfl (sq_no rfl rfl (lr _) rfl rfl ?_))))))
  refine sq_no rfl rfl (lr _) rfl rfl (sq_no rfl rfl (lr _) rfl rfl (sq_no rfl rfl (lr _) rfl rfl (pf rfl (lr _) (lr _) (asr (lr _) rfl (sq_nil (aw_ret ?_))))))
  exact retQ_pure (v := .raw _) rfl rfl (Less.eq (by rw [pl_dec]; simp_all))
theorem nPrint_pure (p : Pl) (hl : p.scenes.length ≤ 1000000) : APure Tryz.prog 50 [plan p] (printAV p) := by
 refine apure_of (rs := [.tmp 2, .tmp 3]) Tryz.func50 rfl rfl (Nat.le_of_ble_eq_true rfl) (by simp [AV.pureL, AV.pureB, AV.pureE, pureE_map]) (by unfold printAV; split <;> rfl) fun e0 he0 => ?_
 refine aw_seq (aw_region ?_)
 refine sq_box rfl (lr _) rfl (asr (lr _) rfl (asr (lr _) rfl (sq_nil (aw_seq (aw_seq (aw_region ?_))))))
 refine sq_ev rfl (ev_load_agg (lr _) rfl ty27 rfl) ?_
 refine sq_ev rfl (ev_call en85 (lr _) (isplan_pure p hl) ⟨lr _, trivial⟩) ?_
 refine sq_ev rfl (ev_not (lr _)) ?_
 refine sq_nil ?_
 refine aw_cond (lr _) (fun c1 => ?_) (fun c1 => ?_)
 ·
  have c1' := c1
  try simp only [qq] at c1'
  refine aw_seq (aw_region ?_)
  refine asr (lr _) rfl (asr (lr _) rfl (sq_nil (aw_ret ?_)))
  exact retQ_pure (v := .tup [.raw _, .raw _]) rfl rfl (Less.eq (by unfold printAV; rw [if_neg (by simpa using c1)]))
 ·
  have c1' := c1
  try simp only [qq] at c1'
  have hk : PlOK p = true := by simpa using c1
  refine aw_skip (aw_seq (aw_region ?_))
  refine sq_ev rfl (ev_load_agg (lr _) rfl ty27 rfl) ?_
  refine sq_ev rfl (ev_call en112 (lr _) (nsheet_pure p (td_sm (ok_td hk))) ⟨lr _, trivial⟩) ?_
  refine asr (lr _) rfl (asr (lr _) rfl (sq_nil (aw_ret ?_)))
  exact retQ_pure (v := .tup [.raw _, .raw _]) rfl rfl (Less.eq (by unfold printAV; rw [if_pos hk]))
theorem pt_yes {p : Pl} (hs : p.scenes.length ≤ 12) (h : PlOK p = true) : APure Tryz.prog 50 [plan p] (.tup [S (sheetL p), I 0]) := by have := nPrint_pure p (by omega); unfold printAV at this; rwa [if_pos h] at this
theorem ok_len {p : Pl} (h : PlOK p = true) : p.scenes.length ≤ 10 := by
  unfold PlOK at h
  simp only [Bool.and_eq_true, decide_eq_true_eq, inn] at h
  omega
end Go.Proofs.YtjghdbdiejaacaaGreatDoor
namespace Go.Proofs.YtjghdbdiejaacaaGreatDoor
open Go Go.Ab Ni
theorem numsOf_bds : ∀ {ws : List (List UInt8)} {ns : List Int}, numsOf ws = some ns → ns.length = ws.length ∧ ∀ n ∈ ns, 0 ≤ n ∧ n ≤ 999
  | [], ns, h => by simp only [numsOf, Option.some.injEq] at h; subst h; simp
  | w :: ws, ns, h => by
    rw [numsOf] at h
    split at h
    · rename_i n l h1 h2
      simp only [Option.some.injEq] at h; subst h
      obtain ⟨h3, h4⟩ := numsOf_bds h2
      refine ⟨by simp [h3], fun m hm => ?_⟩
      rcases List.mem_cons.1 hm with rfl | hm
      · exact numOf_bd h1
      · exact h4 m hm
    · cases h
end Go.Proofs.YtjghdbdiejaacaaGreatDoor
namespace Go.Proofs.YtjghdbdiejaacaaGreatDoor
open Go Go.Ab Ni
theorem pl0_self : APure Tryz.prog 53 [plan pl0, plan pl0] (B true) := by have := rplans_pure pl0 pl0 (by simp [pl0]) (by simp [pl0]); simpa using this
theorem rd_val {s : List UInt8} {x : Pl} {e : Int} (h : readAV s = .tup [plan x, I e]) : APure Tryz.prog 51 [S s] (.tup [plan x, I e]) := by rw [← h]; exact nRead_pure s
end Go.Proofs.YtjghdbdiejaacaaGreatDoor
namespace Go.Proofs.YtjghdbdiejaacaaGreatDoor
open Go Go.Ab Ni
theorem sl78 : slElem Tryz.prog 78 = some (5, 1) := by kernel_rfl
theorem ty5 : tySz Tryz.prog 5 = some (false, 1) := by kernel_rfl
section
variable [Tabs]
def markO (et : TypeId) (cs : Array Value) : Obj := .cells cs et (cs.size, cs.size + 1)
def setMark (e : Env) (i b : Nat) (et : TypeId) (cs : Array Value) : Env := { e with H := e.H.set i (.raw (markO et cs)), w := e.w.setRow b cs }
theorem setMark_T {e : Env} {i b : Nat} {et : TypeId} {o : Obj} {cs : Array Value} (h : e.H[i]? = some (.raw o)) (j : Nat) : (setMark e i b et cs).T j = e.T j := by
  unfold Env.T setMark
  by_cases hj : i = j
  · subst hj
    simp only [List.getElem?_set_self (lt_of_get? h), h, tokOf]
  · simp only [List.getElem?_set_ne hj]
theorem setMark_le {e : Env} (ok : EnvOK e) {i b : Nat} {et : TypeId} {o : Obj} {cs : Array Value} (h : e.H[i]? = some (.raw o)) (hb : e.μ i = some b) (hg : e.G b = 0) : e.Le (setMark e i b et cs) := by
  have hi := lt_of_get? h
  refine ⟨by simp [setMark], fun j _ ht => ⟨by rw [setMark_T h]; exact ht, fun _ hb => hb⟩, fun b' off ho => ⟨ho, ?_⟩, fun j n ht => ⟨n, by rw [setMark_T h]; exact ht, Nat.le_refl _, fun _ => ⟨rfl, fun b' cs' t hm hh => ⟨rfl, cs', ?_, rfl⟩⟩⟩⟩
  · have hne : b' ≠ b := fun e1 => by subst e1; rw [hg] at ho; omega
    exact cell?_of_heap (setRow_other _ _ _ _ hne)
  · have hj : j < e.H.length := by
      rcases Nat.lt_or_ge j e.H.length with k | k
      · exact k
      · unfold Env.T at ht; rw [List.getElem?_eq_none k] at ht; simp [tokOf] at ht
    have hne : b' ≠ b := fun e1 => by
      subst e1
      have := ok.inj i j b' hi hj hb hm
      subst this
      unfold Env.T at ht; rw [h] at ht; simp [tokOf] at ht
    exact (setRow_other _ _ _ _ hne).trans hh
section seq
variable {c : Ctx} {ops : Array Oper} {Q : AExit → St → Prop} {rest : List Oper} {s : St} {i : Nat}
variable {d : Option Tmp} {t : TypeId} {p : String} {af : Array Edge}
theorem setMark_sim {e : Env} {a : Act} (hs : Sim c s e a) {i b : Nat} {et : TypeId} {cs cs0 : Array Value} (h : s.H[i]? = some (.raw (markO et cs0))) (hb : e.μ i = some b) (hg : e.G b = 0)
    (hh : e.w.heap[b]? = some (markO et cs0)) (hsz : cs.size = cs0.size) : Sim c { s with H := s.H.set i (.raw (markO et cs)) } (setMark e i b et cs) a := by
  have h' : e.H[i]? = some (.raw (markO et cs0)) := by rw [hs.H]; exact h
  have hi := lt_of_get? h'
  have le := setMark_le hs.ok (et := et) (cs := cs) h' hb hg
  have hnew : (e.w.setRow b cs).heap[b]? = some (markO et cs) := by
    have := setRow_heap e.w b _ cs _ _ hh
    rw [this, markO, hsz]
  refine ⟨hs.size, fun t => Rep.mono le _ (hs.slots t), hs.defers.mono le, by simp [setMark, hs.H], ⟨fun b' hb' => hs.ok.fresh b' (by simpa [setMark] using hb'), fun j o ho => ?_, fun j k b' hj hk => hs.ok.inj j k b' (by simpa [setMark] using hj) (by simpa [setMark] using hk), fun j b' hj hm => by
    have := hs.ok.live j b' (by simpa [setMark] using hj) hm; simpa [setMark] using this,
    hs.ok.tabs.of (by simp [setMark]) (fun b' _ hn => setRow_other _ _ _ _ fun e1 => by subst e1; exact hn i hi hb) fun j b' hj hm => .inr ⟨j, by simpa [setMark] using hj, hm⟩⟩, ⟨by simpa [setMark] using hs.fr.size, hs.fr.still.trans ⟨rfl, rfl⟩, fun b' hb' hn => ?_, fun j b' hj hm => hs.fr.objs j b' (by simpa [setMark] using hj) hm, hs.fr.le.trans le⟩⟩
  · by_cases hj : i = j
    · subst hj
      simp only [setMark, List.getElem?_set_self hi, Option.some.injEq] at ho
      subst ho
      exact ⟨b, hb, hnew, hg⟩
    · simp only [setMark, List.getElem?_set_ne hj] at ho
      refine ObjSim.mono le (hs.ok.objs j o ho) rfl (fun b' hb' => ⟨setRow_other _ _ _ _ ?_, rfl⟩)
      intro e1; subst e1
      exact hj (hs.ok.inj i j b' hi (lt_of_get? ho) hb hb')
  · obtain ⟨h2, h3⟩ := hs.fr.heap b' hb' hn
    have hne : b' ≠ b := fun e1 => by
      subst e1
      rcases hs.fr.objs i b' hi hb with h4 | ⟨j, hj, h4⟩
      · omega
      · exact hn j hj h4
    exact ⟨(setRow_other _ _ _ _ hne).trans h2, h3⟩
theorem sq_bytes {src dst et : TypeId} {x : Operand} {b : ByteArray} (hd : dOK c.nt d = true) (hsr : c.P.underlying src = some .string) (hds : c.P.underlying dst = some (.slice et)) (he : c.P.underlying et = some (.int .u8))
    (hx : Less (s.op x) (.raw (.string b)))
    (k : ∀ cap, b.size ≤ cap → SeqWP c ops Q (i + 1) rest (St.put { s with H := s.H ++ [.raw (markO et (bytesRow b cap))] } d (.msl s.H.length 0 b.size cap))) :
    SeqWP c ops Q i (⟨d, .convert src dst x, t, p, af, none⟩ :: rest) s := by
  refine sq_op fun e ac hs next hn' => ?_
  have hv := hx e _ (hs.op x)
  rw [Rep] at hv
  have hrun := run_bytes_of_string (P := c.P) e.w src dst et b hsr hds he
  have hle := grownCap_ge e.w b.size 0 et
  generalize grownCap e.w b.size 0 et = cap at hrun hle
  have hs1 := hs.ext (EnvOK.drew hs.ok)
  have hs2 := hs1.push (push_raw hs1.ok (markO et (bytesRow b cap)))
  refine ⟨about_FW _ _ _ _ _, ?_⟩
  show Oper.uponIn (FW c.r) 0 c.P _ ac next (lift c Q) (((Oper.semAt c.r ac.eval ⟨d, .convert src dst x, t, p, af, none⟩)).run c.P e.w)
  rw [semAt_of (by intro c h; cases h)]
  have : (execOp ac.eval ⟨d, .convert src dst x, t, p, af, none⟩).run c.P e.w = .ok (.value (.slice (some ⟨e.w.heap.size, 0, none⟩) b.size cap)) (e.w.drew.alloc (markO et (bytesRow b cap))) := by
    simp [execOp, hv, hrun, Result.andThen, markO]
  rw [this]
  refine hn' _ _ _ (k cap hle) (hs2.put hd ?_)
  rw [Rep]
  refine ⟨?_, ?_, e.w.heap.size, ?_, rfl, hle⟩
  · simp [Env.push, hs.H]
  · simp [Env.T, Env.push, hs.H, tokOf]
  · simp [Env.push, hs.H]
theorem sq_store_mark {st et : TypeId} {x y : Operand} {j off : Nat} {bb : Bool} {v : Value} {cs : Array Value} (hd : dOK c.nt d = true)
    (hx : Less (s.op x) (.ptr j off)) (hy : Less (s.op y) (.raw v)) (hj : s.H[j]? = some (.raw (markO et cs))) (ht : tySz c.P st = some (bb, 1)) (hvc : v.cells = #[v]) (hv1 : isCell v = true) (hle : off < cs.size)
    (k : SeqWP c ops Q (i + 1) rest (St.put { s with H := s.H.set j (.raw (markO et (cs.setIfInBounds off v))) } d .any)) : SeqWP c ops Q i (⟨d, .store st x y, t, p, af, none⟩ :: rest) s := by
  refine sq_op fun e ac hs next hn' => ?_
  have hyv := hy e _ (hs.op y)
  rw [Rep] at hyv
  have hp := hx e _ (hs.op x)
  rw [Rep] at hp
  obtain ⟨a1, a2, b, hb, hpv⟩ := hp
  obtain ⟨b', k1, k2, k3⟩ := hs.ok.objs j _ (by rw [hs.H]; exact hj)
  rw [hb] at k1; cases k1
  have h2 := (run_tyAgg (w := e.w) ht).2
  have h3 := run_storeCells_cells (P := c.P) b off [v] 0 e.w (fun m hm => by
      have : m = 0 := by simpa using hm
      subst this
      unfold World.cell?; simp only [k2, markO]; simp [hle]) (fun m hm => by
      have : m = 0 := by simpa using hm
      subst this
      unfold World.frozen?; simp only [k2, markO]; simp; omega) (fun u hu => by
      have : u = v := by simpa using hu
      subst this; exact hv1)
  simp only [Nat.add_zero] at h3
  have h4 : e.w.setCells b off [v] = e.w.setRow b (cs.setIfInBounds off v) := by
    simp only [World.setCells]
    exact setCell_eq_setRow e.w b off cs et _ v k2
  have hrun : (storeVar st ⟨b, off, none⟩ v).run c.P e.w = .ok () (e.w.setRow b (cs.setIfInBounds off v)) := by
    simp [storeVar, h2, hvc, h3, h4]
  have hsim := setMark_sim hs (cs := cs.setIfInBounds off v) hj hb k3 k2 (by simp)
  refine ⟨about_FW _ _ _ _ _, ?_⟩
  show Oper.uponIn (FW c.r) 0 c.P _ ac next (lift c Q) (((Oper.semAt c.r ac.eval ⟨d, .store st x y, t, p, af, none⟩)).run c.P e.w)
  rw [semAt_of (by intro c h; cases h)]
  have : (execOp ac.eval ⟨d, .store st x y, t, p, af, none⟩).run c.P e.w = .ok .skip (e.w.setRow b (cs.setIfInBounds off v)) := by
    simp [execOp, Instr.storeAt, hpv, Instr.sureAddr, hyv, hrun]
  rw [this]
  exact hn' _ _ _ k (hsim.put hd (by rw [Rep]; trivial))
end seq
section ev
variable {P : Program} {r : Option Nat} {H : List AObj} {ρ : Operand → AV}
variable {d : Option Tmp} {t : TypeId} {p : String} {af : Array Edge} {g : Option (Nat × Bool)}
theorem ev_string_mark {src dst et : TypeId} {x : Operand} {j cap : Nat} {cs : Array Value} {l : List UInt8} (hsr : P.underlying src = some (.slice et)) (he : P.underlying et = some (.int .u8)) (hds : P.underlying dst = some .string)
    (hx : Less (ρ x) (.msl j 0 l.length cap)) (hj : H[j]? = some (.raw (markO et cs))) (hc : ∀ m (h : m < l.length), cs[m]? = some (.int .u8 (l[m].toNat : Int))) :
    Ev P r ⟨d, .convert src dst x, t, p, af, g⟩ H ρ (.raw (.string ⟨l.toArray⟩)) :=
  Ev.pure (by intro c h; cases h) fun e ρc ok hE hs => by
    have hp := hx e _ (hs x (by simp [Op.operands]))
    rw [Rep] at hp
    obtain ⟨a1, a2, b, hb, hpv, _⟩ := hp
    obtain ⟨b', k1, k2, k3⟩ := ok.objs j _ (hE j _ hj (fun n e => by cases e))
    rw [hb] at k1; cases k1
    have hrun := run_convert_bytes_back (P := P) e.w src dst et ⟨b, 0, none⟩ cap l hsr he hds (fun m hm => by
      rw [Addr.add_lit]
      unfold World.cell?; simp only [k2, markO]
      simpa using hc m hm)
    refine ⟨.string ⟨l.toArray⟩, ?_, by rw [Rep]⟩
    simp [execOp, hpv, hrun]
end ev
end
theorem less_mslx {i o n m c : Nat} (h : n = m) : Less (.msl i o n c) (.msl i o m c) := by subst h; exact lr _
theorem bytesRow_size (s : List UInt8) (cap : Nat) : (bytesRow ⟨s.toArray⟩ cap).size = s.length + (cap - s.length) := by
  simp [bytesRow, ByteArray.size]
theorem mark_at {s : List UInt8} {cap k : Nat} {c : UInt8} {v : Int} (hv : v = (c.toNat : Int)) : ∀ m (h : m < (s.set k c).length), ((bytesRow ⟨s.toArray⟩ cap).setIfInBounds k (.int .u8 v))[m]? = some (.int .u8 ((s.set k c)[m].toNat : Int)) := fun m h => by
  have hm : m < s.length := by simpa using h
  have h0 := bytesRow_at ⟨s.toArray⟩ cap m (by simpa using hm)
  rw [Array.getElem?_setIfInBounds, List.getElem_set]
  by_cases e : k = m
  · subst e
    rw [if_pos rfl, if_pos rfl, if_pos (by rw [bytesRow_size]; omega), hv]
  · rw [if_neg e, if_neg e, h0]; simp
theorem rd_none {s : List UInt8} (hs : s.length ≤ 300) (h : parseL s = none) : APure Tryz.prog 51 [S s] (.tup [plan pl0, I 4]) := rd_val (by unfold readAV; rw [if_neg (by omega), h])
theorem digit_c {v : Int} (h : 48 ≤ v ∧ v ≤ 57) : isD (UInt8.ofNat v.toNat) = true ∧ ((UInt8.ofNat v.toNat).toNat : Int) = v := by
  have e : (UInt8.ofNat v.toNat).toNat = v.toNat := by rw [UInt8.toNat_ofNat']; omega
  refine ⟨(isD_iff _).2 (by omega), by omega⟩
theorem cut_ne (c : UInt8) (l : List UInt8) : cut c l ≠ [] := fun e => by have := (cut_len c l).2; rw [e] at this; simp at this
theorem cut_set {n c : UInt8} (hc : c ≠ n) : ∀ (t : List UInt8) (k : Nat) (h : k < t.length), t[k] ≠ n → ∃ i j x, (cut n t)[i]? = some x ∧ x[j]? = some t[k] ∧ cut n (t.set k c) = (cut n t).set i (x.set j c)
  | [], k, h, _ => by simp at h
  | b :: l, 0, h, hb => by
    have hb : b ≠ n := hb
    cases hy : cut n l with
    | nil => exact absurd hy (cut_ne n l)
    | cons y ys =>
      refine ⟨0, 0, b :: y, ?_, ?_, ?_⟩
      · rw [cut, if_neg hb, hy]; rfl
      · rfl
      · rw [List.set_cons_zero, cut, if_neg hc, cut, if_neg hb, hy]; rfl
  | b :: l, k + 1, h, hb => by
    obtain ⟨i, j, x, h1, h2, h3⟩ := cut_set hc l k (by simpa using h) (by simpa using hb)
    rw [List.set_cons_succ]
    by_cases e : b = n
    · refine ⟨i + 1, j, x, ?_, by simpa using h2, ?_⟩
      · rw [cut, if_pos e]; simpa using h1
      · rw [cut, if_pos e, cut, if_pos e, h3]; rfl
    · cases hy : cut n l with
      | nil => exact absurd hy (cut_ne n l)
      | cons y ys =>
        rw [hy] at h1 h3
        rcases i with _ | i
        · simp only [List.getElem?_cons_zero, Option.some.injEq] at h1
          subst h1
          refine ⟨0, j + 1, b :: y, ?_, by simpa using h2, ?_⟩
          · rw [cut, if_neg e, hy]; rfl
          · rw [cut, if_neg e, cut, if_neg e, h3, hy]; rfl
        · refine ⟨i + 1, j, x, ?_, by simpa using h2, ?_⟩
          · rw [cut, if_neg e, hy]; simpa using h1
          · rw [cut, if_neg e, cut, if_neg e, h3, hy]; rfl
theorem csT_s (m : Int) (l : List UInt8) (k : Nat) : csT m l (k + 1) = csT m l k + ((l.getD k 0).toNat : Int) * ((k : Int) + 1) * m := by simp [csT, List.range_succ]
theorem getD_set {α : Type} {l : List α} {j : Nat} (hj : j < l.length) (c d : α) (k : Nat) : (l.set j c).getD k d = if k = j then c else l.getD k d := by
  simp only [List.getD_eq_getElem?_getD, List.getElem?_set]
  by_cases e : k = j
  · subst e; simp [hj]
  · rw [if_neg (fun h => e h.symm), if_neg e]
theorem csT_set {m : Int} {l : List UInt8} {j : Nat} {c : UInt8} (hj : j < l.length) : ∀ k, csT m (l.set j c) k = csT m l k + (if j < k then ((c.toNat : Int) - (l.getD j 0).toNat) * ((j : Int) + 1) * m else 0)
  | 0 => by simp [csT]
  | k + 1 => by
    rw [csT_s, csT_s, csT_set hj k, getD_set hj]
    by_cases e : k = j
    · subst e
      rw [if_pos rfl, if_neg (by omega), if_pos (by omega), Int.sub_mul, Int.sub_mul]; omega
    · rw [if_neg e]
      by_cases h : j < k
      · rw [if_pos h, if_pos (by omega)]; omega
      · rw [if_neg h, if_neg (by omega)]; omega
theorem csL_set {m : Int} {l : List UInt8} {j : Nat} {c : UInt8} (hj : j < l.length) : csL m (l.set j c) = csL m l + ((c.toNat : Int) - (l.getD j 0).toNat) * ((j : Int) + 1) * m := by
  unfold csL; rw [List.length_set, csT_set hj, if_pos hj]
theorem ctT_s (ls : List (List UInt8)) (i : Nat) : ctT ls (i + 1) = ctT ls i + csL ((i : Int) + 1) (ls.getD i []) := by simp [ctT, List.range_succ]
theorem ctT_set {ls : List (List UInt8)} {i : Nat} {x : List UInt8} (hi : i < ls.length) : ∀ n, ctT (ls.set i x) n = ctT ls n + (if i < n then csL ((i : Int) + 1) x - csL ((i : Int) + 1) (ls.getD i []) else 0)
  | 0 => by simp [ctT]
  | n + 1 => by
    rw [ctT_s, ctT_s, ctT_set hi n, getD_set hi]
    by_cases e : n = i
    · subst e
      rw [if_pos rfl, if_neg (by omega), if_pos (by omega)]; omega
    · rw [if_neg e]
      by_cases h : i < n
      · rw [if_pos h, if_pos (by omega)]; omega
      · rw [if_neg h, if_neg (by omega)]; omega
theorem digs_val : ∀ c : Fin 181, valN (digs3 (c.val : Int)) = (c.val : Int) := by decide +kernel
theorem endL_inj {a b : Int} (ha : 0 ≤ a ∧ a < 181) (hb : 0 ≤ b ∧ b < 181) (h : endL a = endL b) : a = b := by
  have h := List.append_cancel_left h
  have h1 := digs_val ⟨a.toNat, by omega⟩
  have h2 := digs_val ⟨b.toNat, by omega⟩
  rw [show ((⟨a.toNat, by omega⟩ : Fin 181).val : Int) = a from (by simp; omega)] at h1
  rw [show ((⟨b.toNat, by omega⟩ : Fin 181).val : Int) = b from (by simp; omega)] at h2
  rw [← h1, ← h2, h]
theorem no181 : ∀ a : Fin 10, ∀ b : Fin 40, ∀ d : Fin 12, a.val ≠ 0 → (a.val * (b.val + 1) * (d.val + 1)) % 181 ≠ 0 := by decide +kernel
theorem not181 {D : Int} {j i : Nat} (hD : D ≠ 0) (h1 : -9 ≤ D) (h2 : D ≤ 9) (hj : j < 40) (hi : i < 12) : ¬ (D * ((j : Int) + 1) * ((i : Int) + 1)) % 181 = 0 := fun h => by
  have hd : (181 : Int) ∣ D * ((j : Int) + 1) * ((i : Int) + 1) := Int.dvd_of_emod_eq_zero h
  have hn := Int.natAbs_dvd_natAbs.2 hd
  rw [Int.natAbs_mul, Int.natAbs_mul] at hn
  have e1 : ((j : Int) + 1).natAbs = j + 1 := by omega
  have e2 : ((i : Int) + 1).natAbs = i + 1 := by omega
  rw [e1, e2] at hn
  exact no181 ⟨D.natAbs, by omega⟩ ⟨j, hj⟩ ⟨i, hi⟩ (by simp only; omega) (Nat.mod_eq_zero_of_dvd hn)
theorem rowsSc_bd : ∀ {ws : List (List UInt8)} {l : List Sc}, rowsSc ws = some l → l.length = ws.length ∧ ∀ x ∈ l, ∃ r, rowSc r = some x
  | [], l, h => by simp only [rowsSc, Option.some.injEq] at h; subst h; simp
  | w :: ws, l, h => by
    rw [rowsSc] at h
    split at h
    · rename_i n l h1 h2
      simp only [Option.some.injEq] at h; subst h
      obtain ⟨h3, h4⟩ := rowsSc_bd h2
      refine ⟨by simp [h3], fun m hm => ?_⟩
      rcases List.mem_cons.1 hm with rfl | hm
      · exact ⟨_, h1⟩
      · exact h4 m hm
    · cases h
theorem parse0_td {s : List UInt8} {p : Pl} (hs : s.length ≤ 999) (h : parse0 s = some p) : TdP p := by
  have hlen := parse0_len h
  unfold parse0 at h
  split at h
  · rename_i r0 rs hr
    split at h
    · cases h
    · split at h
      · rename_i w0 ws hw
        split at h
        · rename_i h7
          split at h
          · rename_i ns l hn hl
            simp only [Option.some.injEq] at h
            obtain ⟨n1, n2⟩ := numsOf_bds hn
            obtain ⟨_, l2⟩ := rowsSc_bd hl
            subst h
            rw [h7] at n1
            refine ⟨fun n hm => ?_, fun x hx => ?_, by omega⟩
            · match ns, n1, n2, hm with
              | [a, b, c, d, e, f, g], _, n2, hm => rw [show headL (headOf [a, b, c, d, e, f, g] l) = [a, b, c, d, e, f, g] from rfl] at hm; exact n2 n hm
            · match ns, n1, hx with
              | [a, b, c, d, e, f, g], _, hx =>
                obtain ⟨r, hr⟩ := l2 x hx
                exact rowSc_bd hr
          · cases h
        · cases h
      · cases h
  · cases h
theorem line_lens {p : Pl} (td : TdP p) : ∀ x ∈ linesL p, x.length ≤ 33 := fun x hx => by
  rw [linesL_eq] at hx
  rcases List.mem_cons.1 hx with rfl | hx
  · rw [head_join, List.length_append]
    have := joinlen (ws := (headL p).map Lib.itoa) (fun w hw => by obtain ⟨n, hn, rfl⟩ := List.mem_map.1 hw; exact (itoa_three (td.head n hn)).2.2)
    have h7 : ((headL p).map Lib.itoa).length = 7 := by rw [headL_eq]; rfl
    have : wNight.length = 5 := rfl
    omega
  · obtain ⟨y, hy, rfl⟩ := List.mem_map.1 hx
    have := scene_len td hy; omega
/-- **A sheet of which one digit was changed is no sheet.** -/
theorem spoilt {p : Pl} (ok : PlOK p = true) {k : Nat} (hk : k < (sheetL p).length) {c : UInt8} (hd : isD (sheetL p)[k] = true) (hc : isD c = true) (hne : (sheetL p)[k] ≠ c) : parseL ((sheetL p).set k c) = none := by
  have td := ok_td ok
  have hlp := ok_len ok
  have hsl := sheet_len td
  cases hq : parseL ((sheetL p).set k c) with
  | none => rfl
  | some q =>
    exfalso
    unfold parseL at hq
    cases h0 : parse0 ((sheetL p).set k c) with
    | none => rw [h0] at hq; cases hq
    | some q' =>
      rw [h0] at hq
      simp only at hq
      split at hq
      · rename_i hs
        simp only [Option.some.injEq] at hq
        subst hq
        have tq := parse0_td (by rw [List.length_set]; omega) h0
        have cp := seal_cut (lines_not td)
        have cq := seal_cut (lines_not tq)
        change cut 10 (sheetL p) = _ at cp
        change cut 10 (sheetL q') = _ at cq
        have h10 : (sheetL p)[k] ≠ 10 := fun e => by rw [e] at hd; revert hd; decide
        have c10 : c ≠ 10 := fun e => by rw [e] at hc; revert hc; decide
        obtain ⟨i, j, x, g1, g2, g3⟩ := cut_set c10 (sheetL p) k hk h10
        rw [← hs, cq, cp] at g3
        rw [cp] at g1
        have hj : j < x.length := (List.getElem?_eq_some_iff.1 g2).1
        have hxj : x.getD j 0 = (sheetL p)[k] := by rw [List.getD_eq_getElem?_getD, g2]; rfl
        have rp : 0 ≤ ctT (linesL p) (linesL p).length % 181 ∧ ctT (linesL p) (linesL p).length % 181 < 181 := by omega
        have rq : 0 ≤ ctT (linesL q') (linesL q').length % 181 ∧ ctT (linesL q') (linesL q').length % 181 < 181 := by omega
        have b1 := (isD_iff _).1 hd
        have b2 := (isD_iff _).1 hc
        rcases Nat.lt_trichotomy i (linesL p).length with hi | hi | hi
        · rw [List.set_append_left _ _ hi] at g3
          rw [List.getElem?_append_left hi] at g1
          obtain ⟨e1, e2⟩ := List.append_inj' g3 rfl
          have e2 := List.cons.inj e2 |>.1
          have e3 := endL_inj rq rp e2
          have hxm : x ∈ linesL p := List.mem_of_getElem? g1
          have hxl := line_lens td x hxm
          have hll : (linesL p).length = p.scenes.length + 1 := by rw [linesL_eq]; simp
          have hxd : (linesL p).getD i [] = x := by rw [List.getD_eq_getElem?_getD, g1]; rfl
          rw [e1, List.length_set, ctT_set hi, if_pos hi, hxd, csL_set hj, hxj] at e3
          refine not181 (D := (c.toNat : Int) - ((sheetL p)[k]).toNat) (j := j) (i := i) ?_ (by omega) (by omega) (by omega) (by omega) (by omega)
          intro e
          exact hne (UInt8.toNat_inj.1 (by omega))
        · subst hi
          rw [List.set_append_right _ _ (Nat.le_refl _), Nat.sub_self] at g3
          rw [List.getElem?_append_right (Nat.le_refl _), Nat.sub_self] at g1
          obtain ⟨e1, e2⟩ := List.append_inj' g3 rfl
          simp only [List.getElem?_cons_zero, Option.some.injEq] at g1
          simp only [List.set_cons_zero, List.cons.injEq, and_true] at e2
          rw [e1, g1] at e2
          have := congrArg (fun l : List UInt8 => l[j]?) e2
          simp only [List.getElem?_set_self hj] at this
          rw [g2] at this
          exact hne (Option.some.inj this)
        · rw [List.getElem?_append_right (by omega)] at g1
          obtain ⟨d, hd'⟩ : ∃ d, i - (linesL p).length = d + 1 := ⟨i - (linesL p).length - 1, by omega⟩
          rw [hd'] at g1
          rcases d with _ | d
          · simp only [List.getElem?_cons_succ, List.getElem?_cons_zero, Option.some.injEq] at g1
            subst g1; simp at hj
          · simp at g1
      · cases hq
theorem law10_long (p : Pl) (k d : Int) (hs : ¬ p.scenes.length ≤ 12) : APure Tryz.prog 10 [plan p, I k, I d] (B true) := by
  refine apure_of (rs := [.tmp 6]) Tryz.func10 rfl rfl (Nat.le_of_ble_eq_true rfl) (by simp [AV.pureL, AV.pureB, AV.pureE, pureE_map]) (rfl) fun e0 he0 => ?_
  refine aw_seq (aw_region ?_)
  refine sq_box rfl (lr _) rfl (asr (lr _) rfl (sq_nil (aw_seq (aw_seq (aw_region ?_)))))
  refine sq_ev rfl (ev_load_agg (lr _) rfl ty27 rfl) ?_
  refine sq_ev rfl (ev_call en20 (lr _) (short_no hs) ⟨lr _, trivial⟩) ?_
  refine sq_ev rfl (ev_not (lr _)) ?_
  refine mvr (lr _) rfl (sq_no rfl rfl (lr _) rfl rfl (sq_no rfl rfl (lr _) rfl rfl (sq_no rfl rfl (lr _) rfl rfl (sq_ev rfl (ev_pickT (v := .raw _) (lr _) (lr _)) ?_))))
  refine mvr (lr _) rfl (sq_no rfl rfl (lr _) rfl rfl (sq_no rfl rfl (lr _) rfl rfl (sq_ev rfl (ev_pickT (v := .raw _) (lr _) (lr _)) ?_)))
  refine mvr (lr _) rfl (sq_no rfl rfl (lr _) rfl rfl (sq_no rfl rfl (lr _) rfl rfl (sq_ev rfl (ev_pickT (v := .raw _) (lr _) (lr _)) ?_)))
  refine sq_nil ?_
  refine aw_true (lr _) ?_
  refine aw_seq (aw_region ?_)
  refine sq_ev rfl (ev_call en21 (lr _) (known_pure) trivial) ?_
  refine asr (lr _) rfl (sq_nil (aw_ret ?_))
  exact retQ_pure (v := .raw _) rfl rfl (lr _)
theorem law10_bad (p : Pl) (k d : Int) (hs : p.scenes.length ≤ 12) (hk : PlOK p = false) : APure Tryz.prog 10 [plan p, I k, I d] (B true) := by
 refine apure_of (rs := [.tmp 6]) Tryz.func10 rfl rfl (Nat.le_of_ble_eq_true rfl) (by simp [AV.pureL, AV.pureB, AV.pureE, pureE_map]) (rfl) fun e0 he0 => ?_
 refine aw_seq (aw_region ?_)
 refine sq_box rfl (lr _) rfl (asr (lr _) rfl (sq_nil (aw_seq (aw_seq (aw_region ?_)))))
 refine sq_ev rfl (ev_load_agg (lr _) rfl ty27 rfl) ?_
 refine sq_ev rfl (ev_call en20 (lr _) (short_yes hs) ⟨lr _, trivial⟩) ?_
 refine sq_ev rfl (ev_not (lr _)) ?_
 refine mvr (lr _) rfl (sq_yes rfl rfl (lr _) rfl (ev_load_agg (lr _) rfl ty27 rfl) ?_)
 refine sq_yes rfl rfl (lr _) rfl (ev_call en24 (lr _) (plan_no hs hk) ⟨lr _, trivial⟩) ?_
 refine sq_yes rfl rfl (lr _) rfl (ev_not (lr _)) ?_
 refine pf rfl (lr _) (lr _) (mvr (lr _) rfl (sq_no rfl rfl (lr _) rfl rfl (sq_no rfl rfl (lr _) rfl rfl (sq_ev rfl (ev_pickT (v := .raw _) (lr _) (lr _)) ?_))))
 refine mvr (lr _) rfl (sq_no rfl rfl (lr _) rfl rfl (sq_no rfl rfl (lr _) rfl rfl (sq_ev rfl (ev_pickT (v := .raw _) (lr _) (lr _)) ?_)))
 refine sq_nil ?_
 refine aw_true (lr _) ?_
 refine aw_seq (aw_region ?_)
 refine sq_ev rfl (ev_call en21 (lr _) (known_pure) trivial) ?_
 refine asr (lr _) rfl (sq_nil (aw_ret ?_))
 exact retQ_pure (v := .raw _) rfl rfl (lr _)
theorem law10_out (p : Pl) (k d : Int) (hs : p.scenes.length ≤ 12) (hk : PlOK p = true) (ho : ¬ (0 ≤ d ∧ d ≤ 9)) : APure Tryz.prog 10 [plan p, I k, I d] (B true) := by
 refine apure_of (rs := [.tmp 6]) Tryz.func10 rfl rfl (Nat.le_of_ble_eq_true rfl) (by simp [AV.pureL, AV.pureB, AV.pureE, pureE_map]) (rfl) fun e0 he0 => ?_
 refine aw_seq (aw_region ?_)
 refine sq_box rfl (lr _) rfl (asr (lr _) rfl (sq_nil (aw_seq (aw_seq (aw_region ?_)))))
 refine sq_ev rfl (ev_load_agg (lr _) rfl ty27 rfl) ?_
 refine sq_ev rfl (ev_call en20 (lr _) (short_yes hs) ⟨lr _, trivial⟩) ?_
 refine sq_ev rfl (ev_not (lr _)) ?_
 refine mvr (lr _) rfl (sq_yes rfl rfl (lr _) rfl (ev_load_agg (lr _) rfl ty27 rfl) ?_)
 refine sq_yes rfl rfl (lr _) rfl (ev_call en24 (lr _) (plan_yes hs hk) ⟨lr _, trivial⟩) ?_
 refine sq_yes rfl rfl (lr _) rfl (ev_not (lr _)) ?_
 refine pf rfl (lr _) (lr _) (mvr (lr _) rfl (ymr rfl rfl (lr _) rfl (lr _) (sq_yes rfl rfl (lr _) rfl (ev_lss (lr _) (lr _)) ?_)))
 refine pf rfl (lr _) (lr _) (mvr (lr _) rfl ?_)
 refine sq_split 24 (lr _) (fun g1_12 => ?_) (fun g1_12 => ?_)
 ·
  have g1_12' := of_decide_eq_true g1_12
  refine sq_no rfl rfl (less_b g1_12) rfl rfl ?_
  refine sq_no rfl rfl (less_b g1_12) rfl rfl ?_
  refine sq_ev rfl (ev_pickT (v := .raw _) (less_b g1_12) (lr _)) ?_
  refine sq_nil ?_
  refine aw_true (lr _) ?_
  refine aw_seq (aw_region ?_)
  refine sq_ev rfl (ev_call en21 (lr _) (known_pure) trivial) ?_
  refine asr (lr _) rfl (sq_nil (aw_ret ?_))
  exact retQ_pure (v := .raw _) rfl rfl (lr _)
 ·
  have g1_12' := of_decide_eq_false g1_12
  refine sq_yes rfl rfl (less_b g1_12) rfl (ev_mv (v := .raw _) (lr _)) ?_
  refine sq_yes rfl rfl (less_b g1_12) rfl (ev_gtr (lr _) (lr _)) ?_
  refine sq_ev rfl (ev_pickF (v := .raw _) (less_b g1_12) (lr _)) ?_
  refine sq_nil ?_
  refine aw_cond (lr _) (fun c_27 => ?_) (fun c_27 => ?_)
  ·
   have c_27' := of_decide_eq_true c_27
   refine aw_seq (aw_region ?_)
   refine sq_ev rfl (ev_call en21 (lr _) (known_pure) trivial) ?_
   refine asr (lr _) rfl (sq_nil (aw_ret ?_))
   exact retQ_pure (v := .raw _) rfl rfl (lr _)
  ·
   have c_27' := of_decide_eq_false c_27
   exfalso; omega
theorem law10_rng (p : Pl) (k d : Int) (hs : p.scenes.length ≤ 12) (hk : PlOK p = true) (hd : 0 ≤ d ∧ d ≤ 9) (ho : ¬ (0 ≤ k ∧ k < ((sheetL p).length : Int))) : APure Tryz.prog 10 [plan p, I k, I d] (B true) := by
 refine apure_of (rs := [.tmp 6]) Tryz.func10 rfl rfl (Nat.le_of_ble_eq_true rfl) (by simp [AV.pureL, AV.pureB, AV.pureE, pureE_map]) (rfl) fun e0 he0 => ?_
 refine aw_seq (aw_region ?_)
 refine sq_box rfl (lr _) rfl (asr (lr _) rfl (sq_nil (aw_seq (aw_seq (aw_region ?_)))))
 refine sq_ev rfl (ev_load_agg (lr _) rfl ty27 rfl) ?_
 refine sq_ev rfl (ev_call en20 (lr _) (short_yes hs) ⟨lr _, trivial⟩) ?_
 refine sq_ev rfl (ev_not (lr _)) ?_
 refine mvr (lr _) rfl (sq_yes rfl rfl (lr _) rfl (ev_load_agg (lr _) rfl ty27 rfl) ?_)
 refine sq_yes rfl rfl (lr _) rfl (ev_call en24 (lr _) (plan_yes hs hk) ⟨lr _, trivial⟩) ?_
 refine sq_yes rfl rfl (lr _) rfl (ev_not (lr _)) ?_
 refine pf rfl (lr _) (lr _) (mvr (lr _) rfl (ymr rfl rfl (lr _) rfl (lr _) (sq_yes rfl rfl (lr _) rfl (ev_lss (lr _) (lr _)) ?_)))
 refine pf rfl (lr _) (lr _) (mvr (lr _) rfl ?_)
 refine sq_split 24 (lr _) (fun g1_12 => ?_) (fun g1_12 => ?_)
 ·
  have g1_12' := of_decide_eq_true g1_12
  exfalso; omega
 ·
  have g1_12' := of_decide_eq_false g1_12
  refine sq_yes rfl rfl (less_b g1_12) rfl (ev_mv (v := .raw _) (lr _)) ?_
  refine sq_yes rfl rfl (less_b g1_12) rfl (ev_gtr (lr _) (lr _)) ?_
  refine sq_ev rfl (ev_pickF (v := .raw _) (less_b g1_12) (lr _)) ?_
  refine sq_nil ?_
  refine aw_cond (lr _) (fun c_27 => ?_) (fun c_27 => ?_)
  ·
   have c_27' := of_decide_eq_true c_27
   exfalso; omega
  ·
   have c_27' := of_decide_eq_false c_27
   refine aw_skip (aw_seq (aw_region ?_))
   refine sq_ev rfl (ev_load_agg (lr _) rfl ty27 rfl) ?_
   refine sq_ev rfl (ev_call en50 (lr _) (pt_yes hs hk) ⟨lr _, trivial⟩) ?_
   refine sq_ev rfl (ev_mv (v := .tup _) (lr _)) ?_
   refine xtr rfl (lr _) rfl ?_
   refine xtr rfl (lr _) rfl (asr (lr _) rfl (asr (lr _) rfl (sq_nil (aw_seq (aw_seq (aw_region ?_))))))
   refine mvr (lr _) rfl (sq_ev rfl (ev_neq (lr _) (lr _)) ?_)
   refine sq_nil ?_
   refine aw_false (lr _) ?_
   refine aw_skip (aw_seq (aw_seq (aw_region ?_)))
   refine mvr (lr _) rfl (sq_ev rfl (ev_lss (lr _) (lr _)) ?_)
   refine mvr (lr _) rfl ?_
   refine sq_split 38 (lr _) (fun g6_2 => ?_) (fun g6_2 => ?_)
   ·
    have g6_2' := of_decide_eq_true g6_2
    refine sq_no rfl rfl (less_b g6_2) rfl rfl ?_
    refine sq_no rfl rfl (less_b g6_2) rfl rfl ?_
    refine sq_no rfl rfl (less_b g6_2) rfl rfl ?_
    refine sq_no rfl rfl (less_b g6_2) rfl rfl ?_
    refine sq_ev rfl (ev_pickT (v := .raw _) (less_b g6_2) (lr _)) ?_
    refine mvr (lr _) rfl (sq_no rfl rfl (lr _) rfl rfl (sq_no rfl rfl (lr _) rfl rfl (sq_no rfl rfl (lr _) rfl rfl (sq_no rfl rfl (lr _) rfl rfl (sq_ev rfl (ev_pickT (v := .raw _) (lr _) (lr _)) ?_)))))
    refine mvr (lr _) rfl (sq_no rfl rfl (lr _) rfl rfl (sq_no rfl rfl (lr _) rfl rfl (sq_no rfl rfl (lr _) rfl rfl (sq_no rfl rfl (lr _) rfl rfl (sq_ev rfl (ev_pickT (v := .raw _) (lr _) (lr _)) ?_)))))
    refine mvr (lr _) rfl (sq_no rfl rfl (lr _) rfl rfl ?_)
    refine sq_no rfl rfl (lr _) rfl rfl (sq_no rfl rfl (lr _) rfl rfl (sq_no rfl rfl (lr _) rfl rfl (sq_no rfl rfl (lr _) rfl rfl (sq_no rfl rfl (lr _) rfl rfl (sq_no rfl rfl (lr _) rfl rfl (sq_ev rfl (ev_pickT (v := .raw _) (lr _) (lr _)) ?_))))))
    refine sq_nil ?_
    refine aw_true (lr _) ?_
    refine aw_seq (aw_region ?_)
    refine sq_ev rfl (ev_call en21 (lr _) (known_pure) trivial) ?_
    refine asr (lr _) rfl (sq_nil (aw_ret ?_))
    exact retQ_pure (v := .raw _) rfl rfl (lr _)
   ·
    have g6_2' := of_decide_eq_false g6_2
    refine sq_yes rfl rfl (less_b g6_2) rfl (ev_mv (v := .raw _) (lr _)) ?_
    refine sq_yes rfl rfl (less_b g6_2) rfl (ev_mv (v := .raw _) (lr _)) ?_
    refine sq_yes rfl rfl (less_b g6_2) rfl (ev_lenS Tryz.underlying9 (lr _)) ?_
    refine sq_yes rfl rfl (less_b g6_2) rfl (ev_geq (lr _) (lr _)) ?_
    refine sq_ev rfl (ev_pickF (v := .raw _) (less_b g6_2) (lr _)) ?_
    refine mvr (lr _) rfl ?_
    refine sq_split 44 (lr _) (fun g6_8 => ?_) (fun g6_8 => ?_)
    ·
     have g6_8' := of_decide_eq_true g6_8
     refine sq_no rfl rfl (less_b g6_8) rfl rfl ?_
     refine sq_no rfl rfl (less_b g6_8) rfl rfl ?_
     refine sq_no rfl rfl (less_b g6_8) rfl rfl ?_
     refine sq_no rfl rfl (less_b g6_8) rfl rfl ?_
     refine sq_ev rfl (ev_pickT (v := .raw _) (less_b g6_8) (lr _)) ?_
     refine mvr (lr _) rfl (sq_no rfl rfl (lr _) rfl rfl (sq_no rfl rfl (lr _) rfl rfl (sq_no rfl rfl (lr _) rfl rfl (sq_no rfl rfl (lr _) rfl rfl (sq_ev rfl (ev_pickT (v := .raw _) (lr _) (lr _)) ?_)))))
     refine mvr (lr _) rfl (sq_no rfl rfl (lr _) rfl rfl ?_)
     refine sq_no rfl rfl (lr _) rfl rfl (sq_no rfl rfl (lr _) rfl rfl (sq_no rfl rfl (lr _) rfl rfl (sq_no rfl rfl (lr _) rfl rfl (sq_no rfl rfl (lr _) rfl rfl (sq_no rfl rfl (lr _) rfl rfl (sq_ev rfl (ev_pickT (v := .raw _) (lr _) (lr _)) ?_))))))
     refine sq_nil ?_
     refine aw_true (lr _) ?_
     refine aw_seq (aw_region ?_)
     refine sq_ev rfl (ev_call en21 (lr _) (known_pure) trivial) ?_
     refine asr (lr _) rfl (sq_nil (aw_ret ?_))
     exact retQ_pure (v := .raw _) rfl rfl (lr _)
    ·
     have g6_8' := of_decide_eq_false g6_8
     exfalso; omega
set_option maxRecDepth 10000 in
theorem law10_main (p : Pl) (k : Nat) (d : Int) (hs : p.scenes.length ≤ 12) (hk : PlOK p = true) (hd : 0 ≤ d ∧ d ≤ 9) (ho : k < (sheetL p).length) (hu : ((sheetL p)[k].toNat : Int) ≤ 255)
  (h51 : 48 ≤ ((sheetL p)[k].toNat : Int) → ((sheetL p)[k].toNat : Int) ≤ 57 → ¬ ((sheetL p)[k].toNat : Int) - 48 = d → APure Tryz.prog 51 [S ((sheetL p).set k (UInt8.ofNat (48 + d).toNat))] (.tup [plan pl0, I 4])) : APure Tryz.prog 10 [plan p, I k, I d] (B true) := by
 refine apure_of (rs := [.tmp 6]) Tryz.func10 rfl rfl (Nat.le_of_ble_eq_true rfl) (by simp [AV.pureL, AV.pureB, AV.pureE, pureE_map]) (rfl) fun e0 he0 => ?_
 refine aw_seq (aw_region ?_)
 refine sq_box rfl (lr _) rfl (asr (lr _) rfl (sq_nil (aw_seq (aw_seq (aw_region ?_)))))
 refine sq_ev rfl (ev_load_agg (lr _) rfl ty27 rfl) ?_
 refine sq_ev rfl (ev_call en20 (lr _) (short_yes hs) ⟨lr _, trivial⟩) ?_
 refine sq_ev rfl (ev_not (lr _)) ?_
 refine mvr (lr _) rfl (sq_yes rfl rfl (lr _) rfl (ev_load_agg (lr _) rfl ty27 rfl) ?_)
 refine sq_yes rfl rfl (lr _) rfl (ev_call en24 (lr _) (plan_yes hs hk) ⟨lr _, trivial⟩) ?_
 refine sq_yes rfl rfl (lr _) rfl (ev_not (lr _)) ?_
 refine pf rfl (lr _) (lr _) (mvr (lr _) rfl (ymr rfl rfl (lr _) rfl (lr _) (sq_yes rfl rfl (lr _) rfl (ev_lss (lr _) (lr _)) ?_)))
 refine pf rfl (lr _) (lr _) (mvr (lr _) rfl ?_)
 refine sq_split 24 (lr _) (fun g1_12 => ?_) (fun g1_12 => ?_)
 ·
  have g1_12' := of_decide_eq_true g1_12
  exfalso; omega
 ·
  have g1_12' := of_decide_eq_false g1_12
  refine sq_yes rfl rfl (less_b g1_12) rfl (ev_mv (v := .raw _) (lr _)) ?_
  refine sq_yes rfl rfl (less_b g1_12) rfl (ev_gtr (lr _) (lr _)) ?_
  refine sq_ev rfl (ev_pickF (v := .raw _) (less_b g1_12) (lr _)) ?_
  refine sq_nil ?_
  refine aw_cond (lr _) (fun c_27 => ?_) (fun c_27 => ?_)
  ·
   have c_27' := of_decide_eq_true c_27
   exfalso; omega
  ·
   have c_27' := of_decide_eq_false c_27
   refine aw_skip (aw_seq (aw_region ?_))
   refine sq_ev rfl (ev_load_agg (lr _) rfl ty27 rfl) ?_
   refine sq_ev rfl (ev_call en50 (lr _) (pt_yes hs hk) ⟨lr _, trivial⟩) ?_
   refine sq_ev rfl (ev_mv (v := .tup _) (lr _)) ?_
   refine xtr rfl (lr _) rfl ?_
   refine xtr rfl (lr _) rfl (asr (lr _) rfl (asr (lr _) rfl (sq_nil (aw_seq (aw_seq (aw_region ?_))))))
   refine mvr (lr _) rfl (sq_ev rfl (ev_neq (lr _) (lr _)) ?_)
   refine sq_nil ?_
   refine aw_false (lr _) ?_
   refine aw_skip (aw_seq (aw_seq (aw_region ?_)))
   refine mvr (lr _) rfl (sq_ev rfl (ev_lss (lr _) (lr _)) ?_)
   refine mvr (lr _) rfl (ymr rfl rfl (lr _) rfl (lr _) (ymr rfl rfl (lr _) rfl (lr _) (sq_yes rfl rfl (lr _) rfl (ev_lenS Tryz.underlying9 (lr _)) ?_)))
   refine sq_yes rfl rfl (lr _) rfl (ev_geq (lr _) (lr _)) ?_
   refine pf rfl (lr _) (lr _) (mvr (lr _) rfl ?_)
   refine sq_split 44 (lr _) (fun g6_8 => ?_) (fun g6_8 => ?_)
   ·
    have g6_8' := of_decide_eq_true g6_8
    exfalso; omega
   ·
    have g6_8' := of_decide_eq_false g6_8
    refine sq_yes rfl rfl (less_b g6_8) rfl (ev_mv (v := .raw _) (lr _)) ?_
    refine sq_yes rfl rfl (less_b g6_8) rfl (ev_mv (v := .raw _) (lr _)) ?_
    refine sq_yes rfl rfl (less_b g6_8) rfl (ev_idxS Tryz.underlying9 (lr _) (lr _) rfl (by omega)) ?_
    refine sq_yes rfl rfl (less_b g6_8) rfl (ev_lss (lr _) (lr _)) ?_
    refine sq_ev rfl (ev_pickF (v := .raw _) (less_b g6_8) (lr _)) ?_
    refine mvr (lr _) rfl ?_
    refine sq_split 50 (lr _) (fun g6_14 => ?_) (fun g6_14 => ?_)
    ·
     have g6_14' := of_decide_eq_true g6_14
     refine sq_no rfl rfl (less_b g6_14) rfl rfl ?_
     refine sq_no rfl rfl (less_b g6_14) rfl rfl ?_
     refine sq_no rfl rfl (less_b g6_14) rfl rfl ?_
     refine sq_no rfl rfl (less_b g6_14) rfl rfl ?_
     refine sq_ev rfl (ev_pickT (v := .raw _) (less_b g6_14) (lr _)) ?_
     refine mvr (lr _) rfl (sq_no rfl rfl (lr _) rfl rfl ?_)
     refine sq_no rfl rfl (lr _) rfl rfl (sq_no rfl rfl (lr _) rfl rfl (sq_no rfl rfl (lr _) rfl rfl (sq_no rfl rfl (lr _) rfl rfl (sq_no rfl rfl (lr _) rfl rfl (sq_no rfl rfl (lr _) rfl rfl (sq_ev rfl (ev_pickT (v := .raw _) (lr _) (lr _)) ?_))))))
     refine sq_nil ?_
     refine aw_true (lr _) ?_
     refine aw_seq (aw_region ?_)
     refine sq_ev rfl (ev_call en21 (lr _) (known_pure) trivial) ?_
     refine asr (lr _) rfl (sq_nil (aw_ret ?_))
     exact retQ_pure (v := .raw _) rfl rfl (lr _)
    ·
     have g6_14' := of_decide_eq_false g6_14
     refine sq_yes rfl rfl (less_b g6_14) rfl (ev_mv (v := .raw _) (lr _)) ?_
     refine sq_yes rfl rfl (less_b g6_14) rfl (ev_mv (v := .raw _) (lr _)) ?_
     refine sq_yes rfl rfl (less_b g6_14) rfl (ev_idxS Tryz.underlying9 (lr _) (lr _) rfl (by omega)) ?_
     refine sq_yes rfl rfl (less_b g6_14) rfl (ev_gtr (lr _) (lr _)) ?_
     refine sq_ev rfl (ev_pickF (v := .raw _) (less_b g6_14) (lr _)) ?_
     refine mvr (lr _) rfl ?_
     refine sq_split 56 (lr _) (fun g6_20 => ?_) (fun g6_20 => ?_)
     ·
      have g6_20' := of_decide_eq_true g6_20
      refine sq_no rfl rfl (less_b g6_20) rfl rfl ?_
      refine sq_no rfl rfl (less_b g6_20) rfl rfl ?_
      refine sq_no rfl rfl (less_b g6_20) rfl rfl ?_
      refine sq_no rfl rfl (less_b g6_20) rfl rfl ?_
      refine sq_no rfl rfl (less_b g6_20) rfl rfl ?_
      refine sq_no rfl rfl (less_b g6_20) rfl rfl ?_
      refine sq_no rfl rfl (less_b g6_20) rfl rfl ?_
      refine sq_ev rfl (ev_pickT (v := .raw _) (less_b g6_20) (lr _)) ?_
      refine sq_nil ?_
      refine aw_true (lr _) ?_
      refine aw_seq (aw_region ?_)
      refine sq_ev rfl (ev_call en21 (lr _) (known_pure) trivial) ?_
      refine asr (lr _) rfl (sq_nil (aw_ret ?_))
      exact retQ_pure (v := .raw _) rfl rfl (lr _)
     ·
      have g6_20' := of_decide_eq_false g6_20
      refine sq_yes rfl rfl (less_b g6_20) rfl (ev_mv (v := .raw _) (lr _)) ?_
      refine sq_yes rfl rfl (less_b g6_20) rfl (ev_mv (v := .raw _) (lr _)) ?_
      refine sq_yes rfl rfl (less_b g6_20) rfl (ev_idxS Tryz.underlying9 (lr _) (lr _) rfl (by omega)) ?_
      refine sq_yes rfl rfl (less_b g6_20) rfl (ev_sub (lr _) (lr _) (wr8 (by omega) (by omega))) ?_
      refine sq_yes rfl rfl (less_b g6_20) rfl (ev_conv_int Tryz.underlying5 Tryz.underlying3 (lr _) (wr (by omega) (by omega))) ?_
      refine sq_yes rfl rfl (less_b g6_20) rfl (ev_mv (v := .raw _) (lr _)) ?_
      refine sq_yes rfl rfl (less_b g6_20) rfl (ev_eql (lr _) (lr _)) ?_
      refine sq_ev rfl (ev_pickF (v := .raw _) (less_b g6_20) (lr _)) ?_
      refine sq_nil ?_
      refine aw_cond (lr _) (fun c_64 => ?_) (fun c_64 => ?_)
      ·
       have c_64' := of_decide_eq_true c_64
       refine aw_seq (aw_region ?_)
       refine sq_ev rfl (ev_call en21 (lr _) (known_pure) trivial) ?_
       refine asr (lr _) rfl (sq_nil (aw_ret ?_))
       exact retQ_pure (v := .raw _) rfl rfl (lr _)
      ·
       have c_64' := of_decide_eq_false c_64
       refine aw_skip (aw_seq (aw_region ?_))
       refine mvr (lr _) rfl ?_
       refine sq_bytes rfl Tryz.underlying9 Tryz.underlying78 Tryz.underlying5 (lr _) fun cap hcap => ?_
       refine sq_ev rfl (ev_as (v := .msl _ _ _ _) (lr _)) ?_
       refine sq_nil (aw_seq (aw_region ?_))
       refine sq_ev rfl (ev_mv (v := .msl _ _ _ _) (lr _)) ?_
       refine mvr (lr _) rfl (mvr (lr _) rfl (sq_ev rfl (ev_add (lr _) (lr _) (wr (by omega) (by omega))) ?_))
       refine sq_ev rfl (ev_conv_int Tryz.underlying3 Tryz.underlying5 (lr _) (wr8 (by omega) (by omega))) ?_
       refine sq_ev rfl (ev_less (v' := .ptr 1 k) (ev_index_msl sl78 (lr _) (lr _) rfl (by rw [bs_size]; omega)) (Less.eq (congrArg (AV.ptr 1) (by omega)))) ?_
       refine sq_store_mark rfl (lr _) (lr _) rfl ty5 rfl rfl (by rw [bytesRow_size]; omega) ?_
       refine sq_nil (aw_seq (aw_region ?_))
       refine sq_ev rfl (ev_mv (v := .msl _ _ _ _) (lr _)) ?_
       refine sq_ev rfl (ev_string_mark (l := (sheetL p).set k (UInt8.ofNat (48 + d).toNat)) Tryz.underlying78 Tryz.underlying5 Tryz.underlying9 (less_mslx (by rw [bs_size, List.length_set])) rfl (mark_at (digit_c (by omega)).2.symm)) ?_
       refine sq_ev rfl (ev_call en51 (lr _) ((h51 (by omega) (by omega) c_64')) ⟨lr _, trivial⟩) ?_
       refine sq_ev rfl (ev_mv (v := .tup _) (lr _)) ?_
       refine xtr rfl (lr _) rfl (xtr rfl (lr _) rfl ?_)
       refine sq_alloc rfl z27 ?_
       refine sq_store rfl (lr _) (lr _) rfl rfl ty27 rfl rfl ?_
       refine asr (lr _) rfl (sq_nil (aw_seq (aw_region ?_)))
       refine mvr (lr _) rfl (sq_ev rfl (ev_eql (lr _) (lr _)) ?_)
       refine mvr (lr _) rfl (sq_yes rfl rfl (lr _) rfl (ev_load_agg (lr _) rfl ty27 rfl) ?_)
       refine sq_yes rfl rfl (lr _) rfl (ev_build bi27 rfl) ?_
       refine sq_yes rfl rfl (lr _) rfl (ev_call en53 (lr _) (pl0_self) ⟨lr _, less_pl0, trivial⟩) ?_
       refine sq_ev rfl (ev_pickT (v := .raw _) (lr _) (lr _)) ?_
       refine mvr (lr _) rfl (sq_yes rfl rfl (lr _) rfl (ev_call en21 (lr _) (known_pure) trivial) ?_)
       refine sq_ev rfl (ev_pickT (v := .raw _) (lr _) (lr _)) ?_
       refine asr (lr _) rfl (sq_nil (aw_ret ?_))
       exact retQ_pure (v := .raw _) rfl rfl (lr _)
/-- **NightSpoilt returns true.** -/
theorem law10 (p : Pl) (k : Int) (_ : -9223372036854775808 ≤ k) (_ : k ≤ 9223372036854775807) (d : Int) (_ : -9223372036854775808 ≤ d) (_ : d ≤ 9223372036854775807) : APure Tryz.prog 10 [plan p, I k, I d] (B true) := by
  by_cases hs : p.scenes.length ≤ 12
  · cases hk : PlOK p with
    | false => exact law10_bad p k d hs hk
    | true =>
      by_cases hd : 0 ≤ d ∧ d ≤ 9
      · by_cases ho : 0 ≤ k ∧ k < ((sheetL p).length : Int)
        · obtain ⟨m, rfl⟩ : ∃ m : Nat, k = (m : Int) := ⟨k.toNat, by omega⟩
          have hm : m < (sheetL p).length := by omega
          refine law10_main p m d hs hk hd hm (by have := (sheetL p)[m].toNat_lt; omega) fun h1 h2 h3 => ?_
          obtain ⟨c1, c2⟩ := digit_c (v := 48 + d) (by omega)
          refine rd_none (by rw [List.length_set]; have := sheet_len (ok_td hk); have := ok_len hk; omega) (spoilt hk hm ((isD_iff _).2 (by omega)) c1 fun e => ?_)
          rw [← e] at c2; omega
        · exact law10_rng p k d hs hk hd ho
      · exact law10_out p k d hs hk hd
  · exact law10_long p k d hs
end Go.Proofs.YtjghdbdiejaacaaGreatDoor
