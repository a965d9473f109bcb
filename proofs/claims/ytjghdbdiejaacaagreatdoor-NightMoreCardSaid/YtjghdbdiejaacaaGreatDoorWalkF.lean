/-
  A part of the proof: conditions: none beyond each theorem's own.
-/
import Derived.Test.YtjghdbdiejaacaaGreatDoorWalkE
import Derived.Test.YtjghdbdiejaacaaGreatDoorSpecA
import Derived.Test.YtjghdbdiejaacaaGreatDoorLogicD
set_option linter.all false
namespace Go.Proofs.YtjghdbdiejaacaaGreatDoor
open Go Go.Ab Ni
theorem bi24 : bldInfo Tryz.prog 24 = some ([.raw (.int .i64 0), .raw (.int .i64 0), .raw (.int .i64 0), .raw (.int .i64 0)], false, [], 2) := by kernel_rfl
theorem bi27 : bldInfo Tryz.prog 27 = some ([.raw (.int .i64 0), .raw (.int .i64 0), .raw (.int .i64 0), .raw (.int .i64 0), .raw (.int .i64 0), .raw (.int .i64 0), .raw (.int .i64 0), .raw (.slice none 0 0)], true, [(0, 1), (1, 4), (5, 2), (7, 1)], 0) := by kernel_rfl
theorem bi84 : bldInfo Tryz.prog 84 = some ([.raw (.int .i64 0), .raw (.int .i64 0), .raw (.int .i64 0), .raw (.bool false), .raw (.int .i64 0)], true, [(0, 1), (1, 1), (2, 1), (3, 1), (4, 1)], 0) := by kernel_rfl
theorem en112 : Ent Tryz.prog 112 := Ent.of Tryz.func112 (by kernel_rfl) rfl
theorem en153 : Ent Tryz.prog 153 := Ent.of Tryz.func153 (by kernel_rfl) rfl
theorem sl138 : slElem Tryz.prog 138 = some (9, 1) := by kernel_rfl

def numV (w : List UInt8) : AV := match numOf w with | some n => I n | none => bot
theorem numV_some {w : List UInt8} {n : Int} (h : numOf w = some n) : numV w = I n := by simp [numV, h]
theorem numV_none {w : List UInt8} (h : numOf w = none) : numV w = bot := by simp [numV, h]
theorem numOf_val {w : List UInt8} {n : Int} (h : numOf w = some n) : n = valN w := by
  unfold numOf at h; split at h
  · exact (Option.some.inj h).symm
  · cases h
theorem num_pure {w : List UInt8} {n : Int} (h : numOf w = some n) (hw : w.length ≤ 1000000) : APure Tryz.prog 153 [S w] (I n) :=
  (nnumber_pan w hw).pure (by simp [AV.pureL, AV.pureB, AV.pureE, pureE_map]) rfl fun x hx => by unfold numR at hx; rw [h] at hx; exact ⟨_, hx, lr _⟩
theorem numR_ret {w : List UInt8} {v : AV} (h : numR w (.ret v)) : numOf w = some (valN w) ∧ v = I (valN w) := by
  unfold numR at h
  cases hn : numOf w with
  | none => rw [hn] at h; cases h
  | some n => rw [hn] at h; cases h; exact ⟨by rw [numOf_val hn], by rw [numOf_val hn]⟩
theorem numR_pan {w : List UInt8} {v : AV} (h : numR w (.pan v)) : numOf w = none ∧ v = .ifc 167 (.agg [S w]) := by
  unfold numR at h
  cases hn : numOf w with
  | none => rw [hn] at h; cases h; exact ⟨rfl, rfl⟩
  | some n => rw [hn] at h; cases h
/-- a number that is read, in a region that draws its order -/
theorem dc_num {r : Option Nat} {nt : Nat} {e0 : Env} {Hc : List AObj} {ops : Array Oper} {fs es : List Nat} {Q : AExit → St → Prop} {i : Nat} {rest : List Oper} {s : St} {d : Option Tmp} {t : TypeId} {p : String} {af : Array Edge} {x y : Operand} {ats : Array TypeId} {w : List UInt8}
    (hd : dOK nt d = true) (hx : Less (s.op x) (.fn (.func 153) [] [])) (hy : Less (s.op y) (S w)) (hw : w.length ≤ 1000000) (hq : ∀ s' : St, numOf w = none → s'.df = s.df → Q (.panic (.ifc 167 (.agg [S w]))) s')
    (k : DC ⟨Tryz.prog, r, nt, e0⟩ Hc ops fs es Q (i + 1) rest (s.put d (numV w))) : DC ⟨Tryz.prog, r, nt, e0⟩ Hc ops fs es Q i (⟨d, .call ⟨.value x, #[y], ats⟩, t, p, af, none⟩ :: rest) s := by
  cases h : numOf w with
  | some n =>
    rw [numV_some h] at k
    exact dc_ev hd (ev_call (args := [S w]) en153 hx (num_pure h hw) (show LessL [s.op y] [S w] from ⟨hy, trivial⟩)) k
  | none =>
    rw [numV_none h] at k
    exact dc_pan hd (pan_call (args := [S w]) en153 hx (show LessL [s.op y] [S w] from ⟨hy, trivial⟩) (nnumber_pan w hw) (fun v hv => by have := (numR_ret hv).1; rw [h] at this; cases this) (fun v s' hv hdf => by rw [(numR_pan hv).2]; exact hq s' h hdf)) k
/-- a sheet, read -/
def parse0 (s : List UInt8) : Option Pl := match cut 10 s with
  | r0 :: rs => if rs.length < 2 then none else match cut 32 r0 with
    | _ :: ws => if ws.length = 7 then (match numsOf ws, rowsSc (rs.take (rs.length - 2)) with
      | some ns, some l => some (headOf ns l)
      | _, _ => none) else none
    | [] => none
  | [] => none
def parseL (s : List UInt8) : Option Pl := match parse0 s with
  | some p => if sheetL p = s then some p else none
  | none => none
def parsR (s : List UInt8) (x : ARes) : Prop := match parseL s with
  | some p => x = .ret (plan p)
  | none => ∃ w, x = .pan (.ifc 167 (.agg [S w]))
theorem parsR_none {s : List UInt8} (h : parseL s = none) (w : List UInt8) : parsR s (.pan (.ifc 167 (.agg [S w]))) := by unfold parsR; rw [h]; exact ⟨w, rfl⟩
theorem parsR_some {s : List UInt8} {p : Pl} (h : parseL s = some p) : parsR s (.ret (plan p)) := by unfold parsR; rw [h]
theorem parse_none {s : List UInt8} (h : parse0 s = none) : parseL s = none := by unfold parseL; rw [h]
theorem parse_rows {s r0 : List UInt8} {rs : List (List UInt8)} (h : cut 10 s = r0 :: rs) (h2 : rs.length < 2) : parseL s = none := parse_none (by unfold parse0; rw [h]; simp only; rw [if_pos h2])
theorem parse_head {s r0 : List UInt8} {rs : List (List UInt8)} (h : cut 10 s = r0 :: rs) (h2 : (cut 32 r0).length ≠ 8) : parseL s = none := parse_none (by
  unfold parse0; rw [h]; simp only
  split
  · rfl
  · split
    · rename_i ws hw; rw [hw] at h2; rw [if_neg (by simp at h2; exact h2)]
    · rfl)
theorem parse_nums {s r0 w0 : List UInt8} {rs ws : List (List UInt8)} (h : cut 10 s = r0 :: rs) (hw : cut 32 r0 = w0 :: ws) (hn : numsOf ws = none) : parseL s = none := parse_none (by
  unfold parse0; rw [h]; simp only
  split
  · rfl
  · rw [hw]; simp only
    split
    · rw [hn]
    · rfl)
theorem parse_scs {s r0 : List UInt8} {rs : List (List UInt8)} (h : cut 10 s = r0 :: rs) (hn : rowsSc (rs.take (rs.length - 2)) = none) : parseL s = none := parse_none (by
  unfold parse0; rw [h]; simp only
  split
  · rfl
  · split
    · split
      · rw [hn]; cases numsOf _ <;> rfl
      · rfl
    · rfl)
theorem parse_all {s r0 w0 : List UInt8} {rs ws : List (List UInt8)} {ns : List Int} {l : List Sc} (h : cut 10 s = r0 :: rs) (h2 : ¬ rs.length < 2) (hw : cut 32 r0 = w0 :: ws) (h7 : ws.length = 7) (hn : numsOf ws = some ns) (hl : rowsSc (rs.take (rs.length - 2)) = some l) : parse0 s = some (headOf ns l) := by
  unfold parse0; rw [h]; simp only
  rw [if_neg h2, hw]; simp only
  rw [if_pos h7, hn, hl]
theorem rowSc_len {r : List UInt8} (h : (cut 32 r).length ≠ 5) : rowSc r = none := by
  unfold rowSc; split
  · rename_i hw; rw [hw] at h; exact absurd rfl h
  · rfl
theorem rowSc_1 {r w0 w1 w2 w3 w4 : List UInt8} (h : cut 32 r = [w0, w1, w2, w3, w4]) (hn : numOf w1 = none) : rowSc r = none := by unfold rowSc; rw [h]; simp only; rw [hn]
theorem rowSc_2 {r w0 w1 w2 w3 w4 : List UInt8} (h : cut 32 r = [w0, w1, w2, w3, w4]) (hn : numOf w2 = none) : rowSc r = none := by unfold rowSc; rw [h]; simp only; rw [hn]; cases numOf w1 <;> rfl
theorem rowSc_3 {r w0 w1 w2 w3 w4 : List UInt8} (h : cut 32 r = [w0, w1, w2, w3, w4]) (hn : numOf w3 = none) : rowSc r = none := by unfold rowSc; rw [h]; simp only; rw [hn]; cases numOf w1 <;> cases numOf w2 <;> rfl
theorem rowSc_yes {r w0 w1 w2 w3 w4 : List UInt8} {a b c d : Int} (h : cut 32 r = [w0, w1, w2, w3, w4]) (h1 : numOf w1 = some a) (h2 : numOf w2 = some b) (h3 : numOf w3 = some c) (h4 : (if w4 = [45] then some (-1) else numOf w4) = some d) :
    rowSc r = some ⟨a, b, c, decide (w0 = wBattle), d⟩ := by unfold rowSc; rw [h]; simp only; rw [h1, h2, h3, h4]; rfl
theorem num_cases (w : List UInt8) : (∃ n, numOf w = some n) ∨ numOf w = none := by cases h : numOf w <;> simp
theorem okq {mids : List (List UInt8)} {q : List Sc} {x : Sc} {r : List UInt8} (hok : ∀ i, (h : i < q.length) → (h2 : i < mids.length) → rowSc mids[i] = some q[i]) {hk : q.length < mids.length} (hr : mids[q.length] = r) (hx : rowSc r = some x) :
    ∀ i, (h : i < (q ++ [x]).length) → (h2 : i < mids.length) → rowSc mids[i] = some (q ++ [x])[i] := by
  intro i h h2
  by_cases e : i < q.length
  · rw [List.getElem_append_left e]; exact hok i e h2
  · have : i = q.length := by simp at h; omega
    subst this
    rw [hr, hx]; simp
theorem rowSc_4 {r w0 w1 w2 w3 w4 : List UInt8} (h : cut 32 r = [w0, w1, w2, w3, w4]) (h4 : w4 ≠ [45]) (hn : numOf w4 = none) : rowSc r = none := by unfold rowSc; rw [h]; simp only; rw [if_neg h4, hn]; cases numOf w1 <;> cases numOf w2 <;> cases numOf w3 <;> rfl
theorem cells_numV (w : List UInt8) : (numV w).cells = some [numV w] := by unfold numV; split <;> rfl
theorem numB {z0 z1 z2 z3 z4 a b c d e : AV} (ha : a.cells = some [a]) (hb : b.cells = some [b]) (hc : c.cells = some [c]) (hd : d.cells = some [d]) (he : e.cells = some [e]) :
    afill (bldPlace true [(0, 1), (1, 1), (2, 1), (3, 1), (4, 1)] 0) [z0, z1, z2, z3, z4] [(0, a), (1, b), (2, c), (3, d), (4, e)] = some [a, b, c, d, e] := by
  simp [afill, bldPlace, ha, hb, hc, hd, he]; rfl
theorem rowSc_bd {r : List UInt8} {x : Sc} (h : rowSc r = some x) : (0 ≤ x.part ∧ x.part ≤ 999) ∧ (0 ≤ x.least ∧ x.least ≤ 999) ∧ (0 ≤ x.most ∧ x.most ≤ 999) ∧ (-1 ≤ x.wants ∧ x.wants ≤ 999) := by
  unfold rowSc at h
  split at h
  · split at h
    · rename_i a b c d h1 h2 h3 h4
      simp only [Option.some.injEq] at h; subst h
      refine ⟨numOf_bd h1, numOf_bd h2, numOf_bd h3, ?_⟩
      split at h4
      · simp only [Option.some.injEq] at h4; subst h4; simp
      · have := numOf_bd h4; simp only; omega
    · cases h
  · cases h
theorem smp_head {a1 a2 a3 a4 a5 a6 a7 : List UInt8} {q : List Sc} (hn : ∀ i (h : i < [a1, a2, a3, a4, a5, a6, a7].length), numOf [a1, a2, a3, a4, a5, a6, a7][i] = some (valN [a1, a2, a3, a4, a5, a6, a7][i])) (hq : q.length ≤ 1000)
    (hs : ∀ x ∈ q, ∃ r, rowSc r = some x) : SmP (headOf [valN a1, valN a2, valN a3, valN a4, valN a5, valN a6, valN a7] q) := by
  have b1 := numOf_bd (hn 0 (by simp)); have b2 := numOf_bd (hn 1 (by simp)); have b3 := numOf_bd (hn 2 (by simp)); have b4 := numOf_bd (hn 3 (by simp))
  have b5 := numOf_bd (hn 4 (by simp)); have b6 := numOf_bd (hn 5 (by simp)); have b7 := numOf_bd (hn 6 (by simp))
  simp only [List.getElem_cons_zero, List.getElem_cons_succ] at b1 b2 b3 b4 b5 b6 b7
  refine ⟨fun n h => ?_, fun x hx n h => ?_, hq⟩
  · have : headL (headOf [valN a1, valN a2, valN a3, valN a4, valN a5, valN a6, valN a7] q) = [valN a1, valN a2, valN a3, valN a4, valN a5, valN a6, valN a7] := rfl
    rw [this] at h
    simp only [List.mem_cons, List.not_mem_nil, or_false] at h
    rcases h with rfl | rfl | rfl | rfl | rfl | rfl | rfl <;> omega
  · obtain ⟨r, hr⟩ := hs x hx
    obtain ⟨c1, c2, c3, c4⟩ := rowSc_bd hr
    unfold toldL at h
    rcases List.mem_append.1 h with h | h
    · simp only [List.mem_cons, List.not_mem_nil, or_false] at h
      rcases h with rfl | rfl | rfl <;> omega
    · split at h
      · simp only [List.mem_cons, List.not_mem_nil, or_false] at h; subst h; omega
      · simp at h
theorem midE {r0 : List UInt8} {rs : List (List UInt8)} (f : List UInt8 → List AV) (h : 2 ≤ rs.length) : AV.sl 1 ((((r0 :: rs).map f).take ((r0 :: rs).length - 2)).drop 1) = .sl 1 ((rs.take (rs.length - 2)).map f) := by
  congr 1
  have e1 : (r0 :: rs).length - 2 = (rs.length - 2) + 1 := by simp; omega
  rw [e1]; simp [List.map_take]
theorem seven {α : Type} {l : List α} (h : l.length = 7) : ∃ a1 a2 a3 a4 a5 a6 a7, l = [a1, a2, a3, a4, a5, a6, a7] := by
  rcases l with _ | ⟨a1, _ | ⟨a2, _ | ⟨a3, _ | ⟨a4, _ | ⟨a5, _ | ⟨a6, _ | ⟨a7, _ | ⟨a8, l⟩⟩⟩⟩⟩⟩⟩⟩ <;> simp at h
  exact ⟨_, _, _, _, _, _, _, rfl⟩
theorem five {α : Type} {l : List α} (h : l.length = 5) : ∃ a1 a2 a3 a4 a5, l = [a1, a2, a3, a4, a5] := by
  rcases l with _ | ⟨a1, _ | ⟨a2, _ | ⟨a3, _ | ⟨a4, _ | ⟨a5, _ | ⟨a6, l⟩⟩⟩⟩⟩⟩ <;> simp at h
  exact ⟨_, _, _, _, _, rfl⟩
set_option maxHeartbeats 8000000 in
/-- kelir/night.parsed -/
theorem nparsed_pan (s : List UInt8) (hs : s.length ≤ 400) : APan Tryz.prog 114 [S s] (parsR s) := by
  refine APan.of_acall (by simp [AV.pureL, AV.pureB, AV.pureE, pureE_map]) (acall_of (rs := [.cell 2 27]) Tryz.func114 rfl rfl (Nat.le_of_ble_eq_true rfl) fun e0 he0 => ?_)
  refine aw_seq (aw_region ?_)
  refine sq_alloc rfl z27 ?_
  refine sq_nil (aw_seq (aw_region ?_))
  refine mvr (lr _) rfl ?_
  refine sq_ev rfl (ev_call en151 (lr _) (nsplit_pure s 10 (by omega)) ⟨lr _, lr _, trivial⟩) ?_
  refine sq_ev rfl (ev_as (v := .sl _ _) (lr _)) ?_
  refine sq_nil (aw_seq ?_)
  generalize hR : cut 10 s = R
  have hRl := cut_len 10 s
  have hRm := cut_mem 10 s
  rw [hR] at hRl hRm
  obtain ⟨r0, rs, rfl⟩ : ∃ r0 rs, R = r0 :: rs := by cases R with | nil => simp at hRl | cons a l => exact ⟨a, l, rfl⟩
  refine aw_region ?_
  refine sq_ev rfl (ev_mv (v := .sl _ _) (lr _)) ?_
  refine sq_ev rfl (ev_len_map sl138 (lr _)) ?_
  refine sq_ev rfl (ev_geq (lr _) (lr _)) ?_
  refine mvr (lr _) rfl ?_
  refine sq_call (args := [B _, S s]) rfl en152 (lr _) ⟨lr _, lr _, trivial⟩ (nsure_pan _ _ _) ?_ ?_
  rotate_left
  · (rintro v _ ⟨rfl, (⟨_, h⟩ | ⟨hb, h⟩)⟩ <;> cases h; exact ⟨rfl, .pan (.ifc 167 (.agg [S _])), parsR_none (parse_rows hR (by simp at hb; omega)) _, rfl, lr _⟩)
  rintro v _ ⟨rfl, (⟨hb1, h⟩ | ⟨_, h⟩)⟩ <;> cases h
  refine sq_nil (aw_seq ?_)
  have hr0 := hRm r0 (by simp)
  have hrs2 : 2 ≤ rs.length := by simp at hb1; omega
  have hrsl : rs.length ≤ s.length := by have h := hRl.1; rw [List.length_cons] at h; omega
  have hMl : (rs.take (rs.length - 2)).length ≤ rs.length := by rw [List.length_take]; omega
  refine aw_region ?_
  refine sq_ev rfl (ev_mv (v := .sl _ _) (lr _)) ?_
  refine sq_ev rfl (ev_index_map (k := 0) sl138 (lr _) (lr _) rfl (by simp)) ?_
  refine sq_ev rfl (ev_load_i (lr _) ty9 rfl) ?_
  refine sq_ev rfl (ev_call en151 (lr _) (nsplit_pure r0 32 (by omega)) ⟨lr _, lr _, trivial⟩) ?_
  refine sq_ev rfl (ev_as (v := .sl _ _) (lr _)) ?_
  refine sq_nil (aw_seq ?_)
  generalize hW : cut 32 r0 = W
  have hwl := cut_mem 32 r0
  rw [hW] at hwl
  refine aw_region ?_
  refine sq_ev rfl (ev_mv (v := .sl _ _) (lr _)) ?_
  refine sq_ev rfl (ev_len_map sl138 (lr _)) ?_
  refine sq_ev rfl (ev_eql (lr _) (lr _)) ?_
  refine mvr (lr _) rfl ?_
  refine sq_call (args := [B _, S s]) rfl en152 (lr _) ⟨lr _, lr _, trivial⟩ (nsure_pan _ _ _) ?_ ?_
  rotate_left
  · (rintro v _ ⟨rfl, (⟨_, h⟩ | ⟨hb, h⟩)⟩ <;> cases h; exact ⟨rfl, .pan (.ifc 167 (.agg [S _])), parsR_none (parse_head hR (by rw [hW]; simp at hb; omega)) _, rfl, lr _⟩)
  rintro v _ ⟨rfl, (⟨hb2, h⟩ | ⟨_, h⟩)⟩ <;> cases h
  refine sq_nil (aw_seq ?_)
  obtain ⟨w0, ws, rfl⟩ : ∃ w0 ws, W = w0 :: ws := by cases W with | nil => simp at hb2 | cons a l => exact ⟨a, l, rfl⟩
  have hws7 : ws.length = 7 := by simp at hb2; omega
  have hWh := hW
  refine aw_region ?_
  refine asr (lr _) rfl ?_
  refine sq_nil (aw_seq (aw_seq (aw_region ?_)))
  refine sq_ev rfl (ev_mv (v := .sl _ _) (lr _)) ?_
  refine sq_ev rfl (ev_less (ev_slice sl138 (lr _) (lr _) rfl (by simp) (by simp)) (Less.eq (b := .sl 1 (ws.map fun p => [S p])) (by simp [List.take_of_length_le]))) ?_
  refine sq_ev rfl (ev_len_map sl138 (lr _)) ?_
  refine mvr (lr _) rfl ?_
  refine sq_nil (aw_block ?_)
  refine aw_sub (sub_token 5 1 (lr _)) ?_
  refine aw_loopk (ι := { k : Nat // k ≤ ws.length ∧ ∀ i, (h : i < ws.length) → i < k → numOf ws[i] = some (valN ws[i]) }) [0, 2, 3, 30, 31] (fun i => [(32, I i.1), (5, .own 1 1 (((ws.take i.1).map valN).map fun x => [I x]))]) (fun H i => H.set 1 (.tok (((ws.take i.1).map valN).map fun x => [I x]).length)) (fun i => ws.length - i.1) (⟨0, Nat.zero_le _, by omega⟩) ⟨lr _, lr _, lr _, lr _, lr _, lr _, lr _, trivial⟩ rfl ?_
  rintro ⟨k, hk, hok⟩
  dsimp only [keepS, St.put, sget, slotsOf, List.map_cons, List.map_nil, List.cons_append, List.nil_append, List.length_cons, List.length_nil, Nat.reduceBEq, Nat.reduceAdd, cond_true, cond_false]
  refine aw_seq (aw_region ?_)
  refine sq_ev rfl (ev_lss (lr _) (lr _)) ?_
  refine sq_nil (aw_seq ?_)
  refine aw_cond (lr _) (fun c1 => ?_) (fun c1 => ?_)
  · skip
    have c1' := c1
    try simp only [qq] at c1'
    have hk' : k < ws.length := by omega
    have eS : ((ws.take (k + 1)).map valN).map (fun x => [I x]) = ((ws.take k).map valN).map (fun x => [I x]) ++ [[I (valN ws[k])]] := by rw [map_take_succ _ hk', List.map_append]; rfl
    refine aw_skip (aw_seq (aw_block (aw_seq (aw_region ?_))))
    refine sq_ev rfl (ev_index_map sl138 (lr _) (lr _) rfl (by omega)) ?_
    refine sq_ev rfl (ev_load_i (lr _) ty9 rfl) ?_
    refine asr (lr _) rfl ?_
    refine sq_nil (aw_region ?_)
    refine sq_ev rfl (ev_mv (v := .own _ _ _) (lr _)) ?_
    refine mvr (lr _) rfl ?_
    refine sq_call (args := [S ws[k]]) rfl en153 (lr _) ⟨lr _, trivial⟩ (nnumber_pan _ (by have := hwl ws[k] (by simp [List.getElem_mem]); omega) _) ?_ ?_
    rotate_left
    · (rintro v _ ⟨rfl, h⟩; obtain ⟨hn, rfl⟩ := numR_pan h; exact ⟨rfl, .pan (.ifc 167 (.agg [S _])), parsR_none (parse_nums hR hW (numsOf_bad hk' hn)) _, rfl, lr _⟩)
    rintro v _ ⟨rfl, h⟩; obtain ⟨hn, rfl⟩ := numR_ret h
    refine sq_ev rfl (ev_buildSlice (es := [[_]]) sf34 rfl rfl rfl rfl) ?_
    refine sq_append rfl sf34 Tryz.underlying34 rfl rfl (less_slx _ _) (Nat.succ_pos _) (by simp; omega) (by simp; omega) ?_
    refine sq_ev rfl (ev_as (v := .own _ _ _) (lr _)) ?_
    refine sq_nil (aw_region ?_)
    refine sq_ev rfl (ev_add (lr _) (lr _) (wr (by omega) (by omega))) ?_
    refine mvr (lr _) rfl ?_
    refine sq_nil ?_
    exact ⟨⟨k + 1, by omega, fun i h hi => (by by_cases e : i = k; (subst e; exact hn); exact hok i h (by omega))⟩, by simp only; omega, Sub.fin 2 ⟨lr _, Less.eq (b := .own 1 1 (((ws.take (k + 1)).map valN).map fun x => [I x])) (by rw [eS] <;> rfl), lr _, lr _, lr _, lr _, lr _, trivial⟩ (congrArg (fun n => [_, AObj.tok n]) (congrArg List.length eS.symm)) (by simp [slotsIn, objsIn, sget, keepS, AObj.inB, AV.inB, AV.inL, AV.inE, inE_map, inE_ints, inE_sc, -List.map_append, -List.map_take, -List.map_map]) (by simp [slotsIn, objsIn, sget, keepS, AObj.inB, AV.inB, AV.inL, AV.inE, inE_map, inE_ints, inE_sc, -List.map_append, -List.map_take, -List.map_map]) (by simp [he0])⟩
  · skip
    have c1' := c1
    try simp only [qq] at c1'
    obtain rfl : k = ws.length := by omega
    have hns : numsOf ws = some (ws.map valN) := numsOf_ok (by simp) (fun i h => by simpa using hok i h h)
    obtain ⟨a1, a2, a3, a4, a5, a6, a7, rfl⟩ : ∃ a1 a2 a3 a4 a5 a6 a7, ws = [a1, a2, a3, a4, a5, a6, a7] := seven hws7
    refine aw_exit (aw_seq ?_)
    refine aw_draw 27 mo (by kernel_rfl) ?_
    refine dr_ev rfl (ev_mv (v := .own _ _ _) (lr _)) ?_
    refine dr_ev rfl (ev_index_map (k := 0) sl34 (less_own _ _ _) (lr _) rfl (by simp)) ?_
    refine dr_ev rfl (ev_load_i (lr _) ty3 rfl) ?_
    refine dr_ev rfl (ev_mv (v := .own _ _ _) (lr _)) ?_
    refine dr_ev rfl (ev_index_map (k := 1) sl34 (less_own _ _ _) (lr _) rfl (by simp)) ?_
    refine dr_ev rfl (ev_load_i (lr _) ty3 rfl) ?_
    refine dr_ev rfl (ev_mv (v := .own _ _ _) (lr _)) ?_
    refine dr_ev rfl (ev_index_map (k := 2) sl34 (less_own _ _ _) (lr _) rfl (by simp)) ?_
    refine dr_ev rfl (ev_load_i (lr _) ty3 rfl) ?_
    refine dr_ev rfl (ev_build bi23 rfl) ?_
    refine dr_ev rfl (ev_mv (v := .own _ _ _) (lr _)) ?_
    refine dr_ev rfl (ev_index_map (k := 3) sl34 (less_own _ _ _) (lr _) rfl (by simp)) ?_
    refine dr_ev rfl (ev_load_i (lr _) ty3 rfl) ?_
    refine dr_ev rfl (ev_mv (v := .own _ _ _) (lr _)) ?_
    refine dr_ev rfl (ev_index_map (k := 4) sl34 (less_own _ _ _) (lr _) rfl (by simp)) ?_
    refine dr_ev rfl (ev_load_i (lr _) ty3 rfl) ?_
    refine dr_ev rfl (ev_build bi23 rfl) ?_
    refine dr_ev rfl (ev_build bi24 rfl) ?_
    refine dr_ev rfl (ev_mv (v := .own _ _ _) (lr _)) ?_
    refine dr_ev rfl (ev_index_map (k := 5) sl34 (less_own _ _ _) (lr _) rfl (by simp)) ?_
    refine dr_ev rfl (ev_load_i (lr _) ty3 rfl) ?_
    refine dr_ev rfl (ev_mv (v := .own _ _ _) (lr _)) ?_
    refine dr_ev rfl (ev_index_map (k := 6) sl34 (less_own _ _ _) (lr _) rfl (by simp)) ?_
    refine dr_ev rfl (ev_load_i (lr _) ty3 rfl) ?_
    refine dr_ev rfl (ev_build bi23 rfl) ?_
    refine dr_ev rfl (ev_build bi27 rfl) ?_
    refine dr_alloc rfl z27 ?_
    refine dr_end ?_
    refine sq_store rfl (lr _) (lr _) rfl rfl ty27 rfl rfl ?_
    refine sq_nil (aw_seq (aw_seq (aw_region ?_)))
    refine sq_ev rfl (ev_mv (v := .sl _ _) (lr _)) ?_
    refine sq_ev rfl (ev_mv (v := .sl _ _) (lr _)) ?_
    refine sq_ev rfl (ev_len_map sl138 (lr _)) ?_
    refine sq_ev rfl (ev_sub (lr _) (lr _) (wr (by omega) (by omega))) ?_
    refine sq_ev rfl (ev_less (ev_slice (lo := 1) (hi := (r0 :: rs).length - 2) sl138 (lr _) (lr _) (less_int (by simp; omega)) (by simp; omega) (by simp; omega)) (Less.eq (b := .sl 1 ((rs.take (rs.length - 2)).map fun p => [S p])) (midE _ hrs2))) ?_
    refine sq_ev rfl (ev_len_map sl138 (lr _)) ?_
    refine mvr (lr _) rfl ?_
    refine sq_nil (aw_block ?_)
    refine aw_sub (sub_token_cell 2 5 [I (valN a1), I (valN a2), I (valN a3), I (valN a4), I (valN a5), I (valN a6), I (valN a7)] [] rfl) ?_
    refine aw_loopk (ι := { q : List Sc // q.length ≤ (rs.take (rs.length - 2)).length ∧ ∀ i, (h : i < q.length) → (h2 : i < (rs.take (rs.length - 2)).length) → rowSc (rs.take (rs.length - 2))[i] = some q[i] }) [0, 2, 8, 72, 73] (fun q => [(74, I q.1.length)]) (fun H q => (H.set 2 (.cells ([I (valN a1), I (valN a2), I (valN a3), I (valN a4), I (valN a5), I (valN a6), I (valN a7)] ++ [.own 3 5 (q.1.map sc)]))).set 3 (.tok (q.1.map sc).length)) (fun q => (rs.take (rs.length - 2)).length - q.1.length) (⟨[], by simp, by simp⟩) ⟨(by exact less_int (by simp)), lr _, lr _, lr _, lr _, lr _, trivial⟩ rfl ?_
    rintro ⟨q, hq, hok2⟩
    dsimp only [keepS, St.put, sget, slotsOf, List.map_cons, List.map_nil, List.cons_append, List.nil_append, List.length_cons, List.length_nil, Nat.reduceBEq, Nat.reduceAdd, cond_true, cond_false]
    refine aw_seq (aw_region ?_)
    refine sq_ev rfl (ev_lss (lr _) (lr _)) ?_
    refine sq_nil (aw_seq ?_)
    refine aw_cond (lr _) (fun c2 => ?_) (fun c2 => ?_)
    · skip
      have c2' := c2
      try simp only [qq] at c2'
      have hk : q.length < (rs.take (rs.length - 2)).length := by omega
      refine aw_skip (aw_seq (aw_block (aw_seq (aw_region ?_))))
      refine sq_ev rfl (ev_index_map sl138 (lr _) (lr _) rfl (by omega)) ?_
      refine sq_ev rfl (ev_load_i (lr _) ty9 rfl) ?_
      refine asr (lr _) rfl ?_
      refine sq_nil (aw_seq ?_)
      generalize hr : (rs.take (rs.length - 2))[q.length] = r
      have hrl : r.length ≤ s.length := hr ▸ hRm _ (List.mem_cons_of_mem _ (List.mem_of_mem_take (List.getElem_mem hk)))
      refine aw_region ?_
      refine mvr (lr _) rfl ?_
      refine sq_ev rfl (ev_call en151 (lr _) (nsplit_pure r 32 (by omega)) ⟨lr _, lr _, trivial⟩) ?_
      refine sq_ev rfl (ev_as (v := .sl _ _) (lr _)) ?_
      refine sq_nil (aw_seq ?_)
      generalize hW : cut 32 r = W
      have hwl := cut_mem 32 r
      rw [hW] at hwl
      refine aw_region ?_
      refine sq_ev rfl (ev_mv (v := .sl _ _) (lr _)) ?_
      refine sq_ev rfl (ev_len_map sl138 (lr _)) ?_
      refine sq_ev rfl (ev_eql (lr _) (lr _)) ?_
      refine mvr (lr _) rfl ?_
      refine sq_call (args := [B _, S r]) rfl en152 (lr _) ⟨lr _, lr _, trivial⟩ (nsure_pan _ _ _) ?_ ?_
      rotate_left
      · (rintro v _ ⟨rfl, (⟨_, h⟩ | ⟨hb, h⟩)⟩ <;> cases h; exact ⟨rfl, .pan (.ifc 167 (.agg [S _])), parsR_none (parse_scs hR (rowsSc_bad hk (hr ▸ rowSc_len (by rw [hW]; simp at hb; omega)))) _, rfl, lr _⟩)
      rintro v _ ⟨rfl, (⟨hb3, h⟩ | ⟨_, h⟩)⟩ <;> cases h
      refine sq_nil (aw_seq ?_)
      obtain ⟨w0, w1, w2, w3, w4, rfl⟩ : ∃ w0 w1 w2 w3 w4, W = [w0, w1, w2, w3, w4] := five (by simp at hb3; omega)
      refine aw_drawc [19] [20] _ mo (by kernel_rfl) (HSub.refl _) ?_
      refine dc_ev rfl (ev_mv (v := .sl _ _) (lr _)) ?_
      refine dc_ev rfl (ev_index_map (k := 1) sl138 (lr _) (lr _) rfl (by simp)) ?_
      refine dc_ev rfl (ev_load_i (lr _) ty9 rfl) ?_
      refine dc_num (w := w1) rfl (lr _) (lr _) (by have := hwl w1 (by simp); omega) (fun s' h hdf => ⟨hdf, .pan (.ifc 167 (.agg [S w1])), parsR_none (parse_scs hR (rowsSc_bad hk (hr ▸ rowSc_1 hW h))) w1, rfl, lr _⟩) ?_
      refine dc_ev rfl (ev_mv (v := .sl _ _) (lr _)) ?_
      refine dc_ev rfl (ev_index_map (k := 2) sl138 (lr _) (lr _) rfl (by simp)) ?_
      refine dc_ev rfl (ev_load_i (lr _) ty9 rfl) ?_
      refine dc_num (w := w2) rfl (lr _) (lr _) (by have := hwl w2 (by simp); omega) (fun s' h hdf => ⟨hdf, .pan (.ifc 167 (.agg [S w2])), parsR_none (parse_scs hR (rowsSc_bad hk (hr ▸ rowSc_2 hW h))) w2, rfl, lr _⟩) ?_
      refine dc_ev rfl (ev_mv (v := .sl _ _) (lr _)) ?_
      refine dc_ev rfl (ev_index_map (k := 3) sl138 (lr _) (lr _) rfl (by simp)) ?_
      refine dc_ev rfl (ev_load_i (lr _) ty9 rfl) ?_
      refine dc_num (w := w3) rfl (lr _) (lr _) (by have := hwl w3 (by simp); omega) (fun s' h hdf => ⟨hdf, .pan (.ifc 167 (.agg [S w3])), parsR_none (parse_scs hR (rowsSc_bad hk (hr ▸ rowSc_3 hW h))) w3, rfl, lr _⟩) ?_
      refine dc_ev rfl (ev_mv (v := .sl _ _) (lr _)) ?_
      refine dc_ev rfl (ev_index_map (k := 0) sl138 (lr _) (lr _) rfl (by simp)) ?_
      refine dc_ev rfl (ev_load_i (lr _) ty9 rfl) ?_
      refine dc_ev rfl (ev_call en154 (lr _) (nnames_pure) trivial) ?_
      refine dc_ev rfl (ev_indexv (k := 2) ar180 ty9 (lr _) (lr _) rfl (by decide) rfl) ?_
      refine dc_ev rfl (ev_seqS (lr _) (lr _)) ?_
      refine dc_ev rfl (ev_build bi84 (numB (cells_numV _) (cells_numV _) (cells_numV _) rfl rfl)) ?_
      refine dc_alloc rfl rfl z84 ?_
      refine dc_eff rfl rfl (eff_store rfl (lr _) (lr _) rfl rfl ty84 rfl rfl) (by apply HL.sub; repeat' (first | exact HL.nil _ | apply HL.same | apply HL.tok)) ?_
      refine dc_nil (aw_seq (aw_seq ?_))
      dsimp only [keepS, St.put, sget, slotsOf, List.map_cons, List.map_nil, List.cons_append, List.nil_append, List.length_cons, List.length_nil, Nat.reduceBEq, Nat.reduceAdd, cond_true, cond_false]
      obtain ⟨n1, h1⟩ | h1 := num_cases w1
      rotate_left
      · exact aw_bot 88 (Less.eq (by show numV w1 = bot; exact numV_none h1))
      obtain ⟨n2, h2⟩ | h2 := num_cases w2
      rotate_left
      · exact aw_bot 92 (Less.eq (by show numV w2 = bot; exact numV_none h2))
      obtain ⟨n3, h3⟩ | h3 := num_cases w3
      rotate_left
      · exact aw_bot 96 (Less.eq (by show numV w3 = bot; exact numV_none h3))
      simp only [numV_some h1, numV_some h2, numV_some h3]
      refine aw_region ?_
      refine sq_ev rfl (ev_mv (v := .sl _ _) (lr _)) ?_
      refine sq_ev rfl (ev_index_map (k := 4) sl138 (lr _) (lr _) rfl (by simp)) ?_
      refine sq_ev rfl (ev_load_i (lr _) ty9 rfl) ?_
      refine sq_ev rfl (ev_sneS (lr _) (lr _)) ?_
      refine sq_nil ?_
      refine aw_cond (lr _) (fun c3 => ?_) (fun c3 => ?_)
      · skip
        have c3' := c3
        try simp only [qq] at c3'
        refine aw_region ?_
        refine sq_ev rfl (ev_mv (v := .sl _ _) (lr _)) ?_
        refine sq_ev rfl (ev_index_map (k := 4) sl138 (lr _) (lr _) rfl (by simp)) ?_
        refine sq_ev rfl (ev_load_i (lr _) ty9 rfl) ?_
        refine sq_call (args := [S w4]) rfl en153 (lr _) ⟨lr _, trivial⟩ (nnumber_pan _ (by have := hwl w4 (by simp); omega) _) ?_ ?_
        rotate_left
        · (rintro v _ ⟨rfl, h⟩; obtain ⟨hn, rfl⟩ := numR_pan h; exact ⟨rfl, .pan (.ifc 167 (.agg [S _])), parsR_none (parse_scs hR (rowsSc_bad hk (hr ▸ rowSc_4 hW (by simpa using c3) hn))) _, rfl, lr _⟩)
        rintro v _ ⟨rfl, h⟩; obtain ⟨hn, rfl⟩ := numR_ret h
        obtain ⟨x, hx, eS⟩ : ∃ x, rowSc r = some x ∧ ((q ++ [x]).map sc) = q.map sc ++ [[I n1, I n2, I n3, B (decide (w0 = wBattle)), I (valN w4)]] := ⟨⟨n1, n2, n3, decide (w0 = wBattle), valN w4⟩, rowSc_yes hW h1 h2 h3 (by rw [if_neg (by simpa using c3)]; exact hn), by simp⟩
        have hxl : (q ++ [x]).length = q.length + 1 := by simp
        refine sq_ev rfl (ev_fieldAddr fo84_4 (lr _)) ?_
        refine sq_store rfl (lr _) (lr _) rfl rfl ty3 rfl rfl ?_
        refine sq_nil (aw_region ?_)
        refine sq_ev rfl (ev_fieldAddr fo27_3 (lr _)) ?_
        refine sq_ev rfl (ev_load (lr _) rfl ty25 rfl) ?_
        refine sq_ev rfl (ev_load_agg (lr _) rfl ty84 rfl) ?_
        refine sq_ev rfl (ev_buildSlice (es := [[_, _, _, _, _]]) sf25 rfl rfl rfl rfl) ?_
        refine sq_append rfl sf25 Tryz.underlying25 rfl rfl (less_slx _ _) (Nat.succ_pos _) (by simp; omega) (by simp; omega) ?_
        refine sq_ev rfl (ev_fieldAddr fo27_3 (lr _)) ?_
        refine sq_store rfl (lr _) (lr _) rfl rfl ty25 rfl rfl ?_
        refine sq_nil (aw_region ?_)
        refine sq_ev rfl (ev_add (lr _) (lr _) (wr (by omega) (by omega))) ?_
        refine mvr (lr _) rfl ?_
        refine sq_nil ?_
        exact ⟨⟨q ++ [x], by omega, okq hok2 hr hx⟩, by simp only; omega, Sub.fin 4 ⟨(by exact less_int (by simp)), lr _, lr _, lr _, lr _, lr _, trivial⟩ (congrArg (fun L => [_, _, AObj.cells ([I (valN a1), I (valN a2), I (valN a3), I (valN a4), I (valN a5), I (valN a6), I (valN a7)] ++ [AV.own 3 5 L]), AObj.tok L.length]) eS.symm) (by simp [slotsIn, objsIn, sget, keepS, AObj.inB, AV.inB, AV.inL, AV.inE, inE_map, inE_ints, inE_sc, -List.map_append, -List.map_take, -List.map_map]) (by simp [slotsIn, objsIn, sget, keepS, AObj.inB, AV.inB, AV.inL, AV.inE, inE_map, inE_ints, inE_sc, -List.map_append, -List.map_take, -List.map_map]) (by simp [he0])⟩
      · skip
        have c3' := c3
        try simp only [qq] at c3'
        obtain ⟨x, hx, eS⟩ : ∃ x, rowSc r = some x ∧ ((q ++ [x]).map sc) = q.map sc ++ [[I n1, I n2, I n3, B (decide (w0 = wBattle)), I (-1)]] := ⟨⟨n1, n2, n3, decide (w0 = wBattle), -1⟩, rowSc_yes hW h1 h2 h3 (by rw [if_pos (by simpa using c3)]), by simp⟩
        have hxl : (q ++ [x]).length = q.length + 1 := by simp
        refine aw_skip (aw_region ?_)
        refine sq_ev rfl (ev_fieldAddr fo27_3 (lr _)) ?_
        refine sq_ev rfl (ev_load (lr _) rfl ty25 rfl) ?_
        refine sq_ev rfl (ev_load_agg (lr _) rfl ty84 rfl) ?_
        refine sq_ev rfl (ev_buildSlice (es := [[_, _, _, _, _]]) sf25 rfl rfl rfl rfl) ?_
        refine sq_append rfl sf25 Tryz.underlying25 rfl rfl (less_slx _ _) (Nat.succ_pos _) (by simp; omega) (by simp; omega) ?_
        refine sq_ev rfl (ev_fieldAddr fo27_3 (lr _)) ?_
        refine sq_store rfl (lr _) (lr _) rfl rfl ty25 rfl rfl ?_
        refine sq_nil (aw_region ?_)
        refine sq_ev rfl (ev_add (lr _) (lr _) (wr (by omega) (by omega))) ?_
        refine mvr (lr _) rfl ?_
        refine sq_nil ?_
        exact ⟨⟨q ++ [x], by omega, okq hok2 hr hx⟩, by simp only; omega, Sub.fin 4 ⟨(by exact less_int (by simp)), lr _, lr _, lr _, lr _, lr _, trivial⟩ (congrArg (fun L => [_, _, AObj.cells ([I (valN a1), I (valN a2), I (valN a3), I (valN a4), I (valN a5), I (valN a6), I (valN a7)] ++ [AV.own 3 5 L]), AObj.tok L.length]) eS.symm) (by simp [slotsIn, objsIn, sget, keepS, AObj.inB, AV.inB, AV.inL, AV.inE, inE_map, inE_ints, inE_sc, -List.map_append, -List.map_take, -List.map_map]) (by simp [slotsIn, objsIn, sget, keepS, AObj.inB, AV.inB, AV.inL, AV.inE, inE_map, inE_ints, inE_sc, -List.map_append, -List.map_take, -List.map_map]) (by simp [he0])⟩
    · skip
      have c2' := c2
      try simp only [qq] at c2'
      have hqe : q.length = (rs.take (rs.length - 2)).length := by omega
      have hsc : rowsSc (rs.take (rs.length - 2)) = some q := rowsSc_ok hqe (fun i h => hok2 i (by omega) h)
      have hhn : ∀ i (h : i < [a1, a2, a3, a4, a5, a6, a7].length), numOf [a1, a2, a3, a4, a5, a6, a7][i] = some (valN [a1, a2, a3, a4, a5, a6, a7][i]) := fun i h => hok i h h
      have sm0 := smp_head hhn (q := q) (by rw [hqe, List.length_take]; simp only [List.length_cons] at hRl; omega) (fun x hx => by obtain ⟨i, hi, rfl⟩ := List.getElem_of_mem hx; exact ⟨_, hok2 i hi (by omega)⟩)
      obtain ⟨p, hP⟩ : ∃ p, p = headOf [valN a1, valN a2, valN a3, valN a4, valN a5, valN a6, valN a7] q := ⟨_, rfl⟩
      have hp0 : parse0 s = some p := by rw [hP]; exact parse_all hR (by omega) hWh hws7 hns hsc
      have sm : SmP p := by rw [hP]; exact sm0
      have hL : Less (.agg ([I (valN a1), I (valN a2), I (valN a3), I (valN a4), I (valN a5), I (valN a6), I (valN a7)] ++ [.own 3 5 (q.map sc)])) (plan p) := by rw [hP]; exact less_agg ⟨lr _, lr _, lr _, lr _, lr _, lr _, lr _, less_own _ _ _, trivial⟩
      refine aw_exit (aw_seq (aw_region ?_))
      refine sq_ev rfl (ev_load_agg (lr _) rfl ty27 rfl) ?_
      refine sq_ev rfl (ev_call en112 (lr _) (nsheet_pure p sm) ⟨hL, trivial⟩) ?_
      refine mvr (lr _) rfl ?_
      refine sq_ev rfl (ev_seqS (lr _) (lr _)) ?_
      refine mvr (lr _) rfl ?_
      refine sq_call (args := [B _, S s]) rfl en152 (lr _) ⟨lr _, lr _, trivial⟩ (nsure_pan _ _ _) ?_ ?_
      rotate_left
      · (rintro v _ ⟨rfl, (⟨_, h⟩ | ⟨hb, h⟩)⟩ <;> cases h; exact ⟨rfl, .pan (.ifc 167 (.agg [S _])), parsR_none (by unfold parseL; rw [hp0]; simp only; rw [if_neg (by simpa using hb)]) _, rfl, lr _⟩)
      rintro v _ ⟨rfl, (⟨hb4, h⟩ | ⟨_, h⟩)⟩ <;> cases h
      refine sq_nil (aw_seq (aw_region ?_))
      refine sq_ev rfl (ev_load_agg (lr _) rfl ty27 rfl) ?_
      refine sq_store rfl (lr _) (lr _) rfl rfl ty27 rfl rfl ?_
      refine sq_nil (aw_ret ?_)
      exact retQ_any (vs := [.agg _]) rfl rfl ⟨resVar_cell rfl rfl ty27 rfl, trivial⟩ (⟨.ret (plan p), parsR_some (by unfold parseL; rw [hp0]; simp only; rw [if_pos (by simpa using hb4)]), by simp [ARes.pureB, AV.pureL, AV.pureB, AV.pureE, pureE_map], hL⟩)


end Go.Proofs.YtjghdbdiejaacaaGreatDoor

namespace Go.Proofs.YtjghdbdiejaacaaGreatDoor
open Go Go.Ab Ni
theorem en113 : Ent Tryz.prog 113 := Ent.of Tryz.func113 (by kernel_rfl) rfl
theorem en114 : Ent Tryz.prog 114 := Ent.of Tryz.func114 (by kernel_rfl) rfl

abbrev pl0 : Pl := ⟨0, 0, 0, 0, 0, 0, 0, []⟩
theorem less_pl0 : Less (.agg [I 0, I 0, I 0, I 0, I 0, I 0, I 0, .raw (.slice none 0 0)]) (plan pl0) :=
  less_agg ⟨lr _, lr _, lr _, lr _, lr _, lr _, lr _, less_nil 5, trivial⟩
abbrev z0 : List AV := [I 0, I 0, I 0, I 0, I 0, I 0, I 0, .raw (.slice none 0 0)]
def readAV (s : List UInt8) : AV := if 300 < s.length then .tup [plan pl0, I 3] else match parseL s with
  | some p => if PlOK p = true then .tup [plan p, I 0] else .tup [plan pl0, I 2]
  | none => .tup [plan pl0, I 4]
theorem parsR_ret {s : List UInt8} {p : Pl} {v : AV} (hp : parseL s = some p) (h : parsR s (.ret v)) : v = plan p := by unfold parsR at h; rw [hp] at h; cases h; rfl
theorem parsR_yes {s : List UInt8} {p : Pl} {v : AV} (hp : parseL s = some p) (h : parsR s (.pan v)) : False := by unfold parsR at h; rw [hp] at h; cases h
theorem parsR_no {s : List UInt8} {v : AV} (hp : parseL s = none) (h : parsR s (.ret v)) : False := by unfold parsR at h; rw [hp] at h; obtain ⟨w, h⟩ := h; cases h
theorem parsR_pan {s : List UInt8} {v : AV} (hp : parseL s = none) (h : parsR s (.pan v)) : ∃ w, v = .ifc 167 (.agg [S w]) := by unfold parsR at h; rw [hp] at h; obtain ⟨w, h⟩ := h; cases h; exact ⟨w, rfl⟩
/-- the closure that reads -/
theorem nread1_yes {s : List UInt8} {p : Pl} {i j : Nat} {H : List AObj} (hs : s.length ≤ 400) (hp : parseL s = some p) (hi : H[i]? = some (.cells [S s])) (hj : H[j]? = some (.cells [I 0, I 0, I 0, I 0, I 0, I 0, I 0, .raw (.slice none 0 0)])) :
    ACall Tryz.prog 113 [.ptr i 0, .ptr j 0] H fun x H' => H' = H.set j (.cells (planC p)) ∧ x = .ret (.tup []) := by
  refine acall_of (rs := []) Tryz.func113 rfl rfl (Nat.le_of_ble_eq_true rfl) fun e0 he0 => ?_
  refine aw_region ?_
  refine sq_ev rfl (ev_load (lr _) hi ty9 rfl) ?_
  refine sq_call (first := []) (cap := []) (args := [S s]) rfl en114 (lr _) ⟨lr _, trivial⟩ (nparsed_pan s hs H) ?_ ?_
  · rintro v _ ⟨rfl, hR⟩
    obtain rfl := parsR_ret hp hR
    refine sq_store (j := j) (off := 0) rfl (lr _) (lr _) rfl hj ty27 rfl rfl ?_
    refine sq_nil ?_
    exact ⟨rfl, .tup [], rfl, rfl, rfl⟩
  · rintro v _ ⟨rfl, hR⟩
    exact (parsR_yes hp hR).elim
theorem nread1_no {s : List UInt8} {i j : Nat} {H : List AObj} (hs : s.length ≤ 400) (hp : parseL s = none) (hi : H[i]? = some (.cells [S s])) :
    ACall Tryz.prog 113 [.ptr i 0, .ptr j 0] H fun x H' => H' = H ∧ ∃ w, x = .pan (.ifc 167 (.agg [S w])) := by
  refine acall_of (rs := []) Tryz.func113 rfl rfl (Nat.le_of_ble_eq_true rfl) fun e0 he0 => ?_
  refine aw_region ?_
  refine sq_ev rfl (ev_load (lr _) hi ty9 rfl) ?_
  refine sq_call (first := []) (cap := []) (args := [S s]) rfl en114 (lr _) ⟨lr _, trivial⟩ (nparsed_pan s hs H) ?_ ?_
  · rintro v _ ⟨rfl, hR⟩
    exact (parsR_no hp hR).elim
  · rintro v _ ⟨rfl, hR⟩
    obtain ⟨w, rfl⟩ := parsR_pan hp hR
    exact ⟨rfl, rfl, w, rfl⟩
/-- the attempt to read -/
theorem nattread_yes {s : List UInt8} {p : Pl} {i j : Nat} {H : List AObj} (hs : s.length ≤ 400) (hp : parseL s = some p) (hi : H[i]? = some (.cells [S s])) (hj : H[j]? = some (.cells [I 0, I 0, I 0, I 0, I 0, I 0, I 0, .raw (.slice none 0 0)]))
    (hin : objsIn H.length (H.set j (.cells (planC p))) = true) :
    ACall Tryz.prog 108 [.fn (.func 113) [] [.ptr i 0, .ptr j 0]] H fun x H' => H' = H.set j (.cells (planC p)) ∧ x = .ret (.tup [.agg [I 0, I 0], I 0]) := by
  refine ACall.drop (H1 := H.set j (.cells (planC p))) (R := fun x => x = .ret (.tup [.agg [I 0, I 0], I 0])) ?_ (by simp) (by simpa using hin) (fun x hx => by subst hx; rfl)
  refine (nattempt_call (Rd := fun x H1 => H1 = H.set j (.cells (planC p)) ∧ x = .ret (.tup [])) en113
    ((nread1_yes hs hp (i := i) (j := j) (lookL hi) (lookL hj)).mono ?_)).mono ?_
  · rintro x _ ⟨rfl, rfl⟩
    exact ⟨H.set j (.cells (planC p)), [], by rw [setL (lt_of_get? hj)]; simp, by simp, ⟨rfl, rfl⟩, _, Gave.ret _⟩
  · rintro x H' ⟨y, v, H1, X, rfl, hg, ⟨rfl, rfl⟩, rfl⟩
    refine ⟨⟨X, rfl⟩, ?_⟩
    cases hg; rfl
theorem nattread_no {s : List UInt8} {i j : Nat} {H : List AObj} (hs : s.length ≤ 400) (hp : parseL s = none) (hi : H[i]? = some (.cells [S s])) (hin : objsIn H.length H = true) :
    ACall Tryz.prog 108 [.fn (.func 113) [] [.ptr i 0, .ptr j 0]] H fun x H' => H' = H ∧ x = .ret (.tup [.agg [I 0, I 0], I 4]) := by
  refine ACall.drop (R := fun x => x = .ret (.tup [.agg [I 0, I 0], I 4])) ?_ (Nat.le_refl _) hin (fun x hx => by subst hx; rfl)
  refine (nattempt_call (Rd := fun x H1 => H1 = H ∧ ∃ w, x = .pan (.ifc 167 (.agg [S w]))) en113
    ((nread1_no hs hp (i := i) (j := j) (lookL hi)).mono ?_)).mono ?_
  · rintro x _ ⟨rfl, w, rfl⟩
    exact ⟨H, [], by simp, rfl, ⟨rfl, w, rfl⟩, _, Gave.sheet (S w) rfl⟩
  · rintro x H' ⟨y, v, H1, X, rfl, hg, ⟨rfl, w, rfl⟩, rfl⟩
    refine ⟨⟨X, rfl⟩, ?_⟩
    cases hg; rfl
set_option maxHeartbeats 1000000 in
/-- kelir/night.Read -/
theorem nReadL_pure (s : List UInt8) (hs : 300 < s.length) : APure Tryz.prog 51 [S s] (readAV s) := by
  refine apure_of (rs := [.cell 2 27, .tmp 3]) Tryz.func51 rfl rfl (Nat.le_of_ble_eq_true rfl) (by simp [AV.pureL, AV.pureB, AV.pureE, pureE_map]) (by unfold readAV; rw [if_pos hs]; rfl) fun e0 he0 => ?_
  refine aw_seq (aw_region ?_)
  refine sq_box rfl (lr _) rfl ?_
  refine sq_alloc rfl z27 ?_
  refine asr (lr _) rfl ?_
  refine sq_nil (aw_seq (aw_seq (aw_region ?_)))
  refine sq_ev rfl (ev_load (lr _) rfl ty9 rfl) ?_
  refine sq_ev rfl (ev_lenS Tryz.underlying9 (lr _)) ?_
  refine sq_ev rfl (ev_gtr (lr _) (lr _)) ?_
  refine sq_nil ?_
  refine aw_cond (lr _) (fun c1 => ?_) (fun c1 => ?_)
  · skip
    have c1' := c1
    try simp only [qq] at c1'
    refine aw_seq (aw_region ?_)
    refine sq_ev rfl (ev_build bi27 rfl) ?_
    refine sq_store rfl (lr _) (lr _) rfl rfl ty27 rfl rfl ?_
    refine asr (lr _) rfl ?_
    refine sq_nil (aw_ret ?_)
    exact retQ_res (vs := [.agg _, .raw _]) rfl rfl ⟨resVar_cell rfl rfl ty27 rfl, resVar_tmp _ _ _, trivial⟩ (Less.trans (b := .tup [plan pl0, I 3]) (less_tup ⟨less_pl0, lr _, trivial⟩) (Less.eq (by unfold readAV; rw [if_pos hs])))
  · skip
    have c1' := c1
    try simp only [qq] at c1'
    exfalso; omega

set_option maxHeartbeats 1000000 in
/-- kelir/night.Read -/
theorem nReadN_pure (s : List UInt8) (hs : ¬ 300 < s.length) (hp : parseL s = none) : APure Tryz.prog 51 [S s] (readAV s) := by
 refine apure_of (rs := [.cell 2 27, .tmp 3]) Tryz.func51 rfl rfl (Nat.le_of_ble_eq_true rfl) (by simp [AV.pureL, AV.pureB, AV.pureE, pureE_map]) (by unfold readAV; rw [if_neg hs, hp]; rfl) fun e0 he0 => ?_
 refine aw_seq (aw_region ?_)
 refine sq_box rfl (lr _) rfl ?_
 refine sq_alloc rfl z27 ?_
 refine asr (lr _) rfl ?_
 refine sq_nil (aw_seq (aw_seq (aw_region ?_)))
 refine sq_ev rfl (ev_load (lr _) rfl ty9 rfl) ?_
 refine sq_ev rfl (ev_lenS Tryz.underlying9 (lr _)) ?_
 refine sq_ev rfl (ev_gtr (lr _) (lr _)) ?_
 refine sq_nil ?_
 refine aw_cond (lr _) (fun c1 => ?_) (fun c1 => ?_)
 ·
  have c1' := c1
  try simp only [qq] at c1'
  exfalso; omega
 ·
  have c1' := c1
  try simp only [qq] at c1'
  refine aw_skip (aw_seq (aw_region ?_))
  refine sq_alloc rfl z27 ?_
  refine sq_nil (aw_seq (aw_seq (aw_region ?_)))
  refine sq_ev rfl (ev_makeFunc) ?_
  refine sq_call (args := [.fn (.func 113) [] [.ptr 0 0, .ptr 2 0]]) rfl en108 (lr _) ⟨lr _, trivial⟩ (nattread_no (H := [.cells [S s], .cells z0, .cells z0]) (i := 0) (j := 2) (by omega) hp rfl (by simp [objsIn, AObj.inB, AV.inB, AV.inL, AV.inE, inE_map, inE_ints, inE_sc, -List.map_append, -List.map_take, -List.map_map])) ?_ (by rintro v H' ⟨_, h⟩; cases h)
  rintro _ _ ⟨rfl, h⟩; cases h
  refine sq_ev rfl (ev_mv (v := .tup _) (lr _)) ?_
  refine sq_ev rfl (ev_extract (lr _) rfl) ?_
  refine sq_ev rfl (ev_extract (lr _) rfl) ?_
  refine sq_alloc rfl z132 ?_
  refine sq_store rfl (lr _) (lr _) rfl rfl ty132 rfl rfl ?_
  refine asr (lr _) rfl ?_
  refine sq_nil (aw_seq (aw_region ?_))
  refine mvr (lr _) rfl ?_
  refine sq_ev rfl (ev_neq (lr _) (lr _)) ?_
  refine sq_nil ?_
  refine aw_cond (lr _) (fun c2 => ?_) (fun c2 => ?_)
  ·
   have c2' := c2
   try simp only [qq] at c2'
   refine aw_seq (aw_region ?_)
   refine sq_ev rfl (ev_build bi27 rfl) ?_
   refine mvr (lr _) rfl ?_
   refine sq_store rfl (lr _) (lr _) rfl rfl ty27 rfl rfl ?_
   refine asr (lr _) rfl ?_
   refine sq_nil (aw_ret ?_)
   exact retQ_res (vs := [.agg _, .raw _]) rfl rfl ⟨resVar_cell rfl rfl ty27 rfl, resVar_tmp _ _ _, trivial⟩ (Less.trans (b := .tup [plan pl0, I 4]) (less_tup ⟨less_pl0, lr _, trivial⟩) (Less.eq (by unfold readAV; rw [if_neg hs, hp])))
  ·
   have c2' := c2
   try simp only [qq] at c2'
   exact absurd c2' (by decide)

set_option maxHeartbeats 1000000 in
/-- kelir/night.Read -/
theorem nReadS_pure (s : List UInt8) (p : Pl) (hs : ¬ 300 < s.length) (hp : parseL s = some p) (hl : p.scenes.length ≤ 1000000) : APure Tryz.prog 51 [S s] (readAV s) := by
 refine apure_of (rs := [.cell 2 27, .tmp 3]) Tryz.func51 rfl rfl (Nat.le_of_ble_eq_true rfl) (by simp [AV.pureL, AV.pureB, AV.pureE, pureE_map]) (by unfold readAV; rw [if_neg hs, hp]; simp only; split <;> simp [AV.pureL, AV.pureB, AV.pureE, pureE_map]) fun e0 he0 => ?_
 refine aw_seq (aw_region ?_)
 refine sq_box rfl (lr _) rfl ?_
 refine sq_alloc rfl z27 ?_
 refine asr (lr _) rfl ?_
 refine sq_nil (aw_seq (aw_seq (aw_region ?_)))
 refine sq_ev rfl (ev_load (lr _) rfl ty9 rfl) ?_
 refine sq_ev rfl (ev_lenS Tryz.underlying9 (lr _)) ?_
 refine sq_ev rfl (ev_gtr (lr _) (lr _)) ?_
 refine sq_nil ?_
 refine aw_cond (lr _) (fun c1 => ?_) (fun c1 => ?_)
 ·
  have c1' := c1
  try simp only [qq] at c1'
  exfalso; omega
 ·
  have c1' := c1
  try simp only [qq] at c1'
  refine aw_skip (aw_seq (aw_region ?_))
  refine sq_alloc rfl z27 ?_
  refine sq_nil (aw_seq (aw_seq (aw_region ?_)))
  refine sq_ev rfl (ev_makeFunc) ?_
  refine sq_call (args := [.fn (.func 113) [] [.ptr 0 0, .ptr 2 0]]) rfl en108 (lr _) ⟨lr _, trivial⟩ (nattread_yes (H := [.cells [S s], .cells z0, .cells z0]) (i := 0) (j := 2) (by omega) hp rfl rfl (by simp [objsIn, AObj.inB, AV.inB, AV.inL, AV.inE, inE_map, inE_ints, inE_sc, -List.map_append, -List.map_take, -List.map_map])) ?_ (by rintro v H' ⟨_, h⟩; cases h)
  rintro _ _ ⟨rfl, h⟩; cases h
  refine sq_ev rfl (ev_mv (v := .tup _) (lr _)) ?_
  refine sq_ev rfl (ev_extract (lr _) rfl) ?_
  refine sq_ev rfl (ev_extract (lr _) rfl) ?_
  refine sq_alloc rfl z132 ?_
  refine sq_store rfl (lr _) (lr _) rfl rfl ty132 rfl rfl ?_
  refine asr (lr _) rfl ?_
  refine sq_nil (aw_seq (aw_region ?_))
  refine mvr (lr _) rfl ?_
  refine sq_ev rfl (ev_neq (lr _) (lr _)) ?_
  refine sq_nil ?_
  refine aw_cond (lr _) (fun c2 => ?_) (fun c2 => ?_)
  ·
   have c2' := c2
   try simp only [qq] at c2'
   exact absurd trivial c2'
  ·
   have c2' := c2
   try simp only [qq] at c2'
   refine aw_skip (aw_seq (aw_seq (aw_region ?_)))
   refine sq_ev rfl (ev_load_agg (lr _) rfl ty27 rfl) ?_
   refine sq_ev rfl (ev_call en85 (lr _) (isplan_pure p hl) ⟨lr _, trivial⟩) ?_
   refine sq_ev rfl (ev_not (lr _)) ?_
   refine sq_nil ?_
   refine aw_cond (lr _) (fun c3 => ?_) (fun c3 => ?_)
   ·
    have c3' := c3
    try simp only [qq] at c3'
    refine aw_seq (aw_region ?_)
    refine sq_ev rfl (ev_build bi27 rfl) ?_
    refine sq_store rfl (lr _) (lr _) rfl rfl ty27 rfl rfl ?_
    refine asr (lr _) rfl ?_
    refine sq_nil (aw_ret ?_)
    exact retQ_res (vs := [.agg _, .raw _]) rfl rfl ⟨resVar_cell rfl rfl ty27 rfl, resVar_tmp _ _ _, trivial⟩ (Less.trans (b := .tup [plan pl0, I 2]) (less_tup ⟨less_pl0, lr _, trivial⟩) (Less.eq (by unfold readAV; rw [if_neg hs, hp]; simp only; rw [if_neg (by simpa using c3)])))
   ·
    have c3' := c3
    try simp only [qq] at c3'
    refine aw_skip (aw_seq (aw_region ?_))
    refine sq_ev rfl (ev_load_agg (lr _) rfl ty27 rfl) ?_
    refine sq_store rfl (lr _) (lr _) rfl rfl ty27 rfl rfl ?_
    refine asr (lr _) rfl ?_
    refine sq_nil (aw_ret ?_)
    exact retQ_res (vs := [.agg _, .raw _]) rfl rfl ⟨resVar_cell rfl rfl ty27 rfl, resVar_tmp _ _ _, trivial⟩ (Less.trans (b := .tup [plan p, I 0]) (less_tup ⟨lr _, lr _, trivial⟩) (Less.eq (by unfold readAV; rw [if_neg hs, hp]; simp only; rw [if_pos (by simpa using c3)])))

theorem rowsSc_len : ∀ {ws : List (List UInt8)} {l : List Sc}, rowsSc ws = some l → l.length = ws.length
  | [], l, h => by simp [rowsSc] at h; subst h; rfl
  | w :: ws, l, h => by
    unfold rowsSc at h
    split at h
    · rename_i n l' h1 h2
      simp only [Option.some.injEq] at h; subst h
      simp [rowsSc_len h2]
    · cases h
theorem parse0_len {s : List UInt8} {p : Pl} (h : parse0 s = some p) : p.scenes.length ≤ s.length := by
  unfold parse0 at h
  have hc := (cut_len 10 s).1
  split at h
  · rename_i r0 rs hr
    rw [hr] at hc; simp only [List.length_cons] at hc
    split at h
    · cases h
    · split at h
      · split at h
        · split at h
          · rename_i ns l hn hl
            simp only [Option.some.injEq] at h; subst h
            have := rowsSc_len hl
            have hh : ∀ ns, (headOf ns l).scenes = l := fun ns => by unfold headOf; split <;> rfl
            rw [hh, this, List.length_take]; omega
          · cases h
        · cases h
      · cases h
  · cases h
theorem parseL_len {s : List UInt8} {p : Pl} (h : parseL s = some p) : p.scenes.length ≤ s.length := by
  unfold parseL at h
  split at h
  · rename_i q hq
    split at h
    · simp only [Option.some.injEq] at h; subst h; exact parse0_len hq
    · cases h
  · cases h
/-- **Read.** -/
theorem nRead_pure (s : List UInt8) : APure Tryz.prog 51 [S s] (readAV s) := by
  by_cases hs : 300 < s.length
  · exact nReadL_pure s hs
  · cases hp : parseL s with
    | none => exact nReadN_pure s hs hp
    | some p => exact nReadS_pure s p hs hp (by have := parseL_len hp; omega)

end Go.Proofs.YtjghdbdiejaacaaGreatDoor

namespace Go.Proofs.YtjghdbdiejaacaaGreatDoor
open Go Go.Ab Ni
theorem en115 : Ent Tryz.prog 115 := Ent.of Tryz.func115 (by kernel_rfl) rfl
theorem en116 : Ent Tryz.prog 116 := Ent.of Tryz.func116 (by kernel_rfl) rfl
theorem en117 : Ent Tryz.prog 117 := Ent.of Tryz.func117 (by kernel_rfl) rfl
theorem sf138 : SlFact Tryz.prog 138 9 1 16 := SlFact.of (by kernel_rfl)
theorem sf78 : SlFact Tryz.prog 78 5 1 1 := SlFact.of (by kernel_rfl)

theorem qn10 {n : Nat} (h : n ≤ 1000000) : IntKind.i64.wrap ((n : Int).tdiv 10) = ((n / 10 : Nat) : Int) := by rw [qd (by omega) (by omega) (by decide)]; try omega
theorem rn10 {n : Nat} : ((n : Int).tmod 10) = ((n % 10 : Nat) : Int) := by rw [Int.tmod_eq_emod_of_nonneg (by omega)]; try omega
theorem itoa_nat (n : Nat) : Lib.itoa n = Lib.decDigits n := by unfold Lib.itoa; rw [if_neg (by omega)]; rfl
theorem dd_small {n : Nat} (h : n < 10) : Lib.decDigits n = [UInt8.ofNat (48 + n)] := by rw [Lib.decDigits, dif_pos h]
theorem dd_big {n : Nat} (h : ¬ n < 10) : Lib.decDigits n = Lib.decDigits (n / 10) ++ [UInt8.ofNat (48 + n % 10)] := by rw [Lib.decDigits, dif_neg h]
theorem digit_eq (n : Nat) : UInt8.ofNat ((48 + (n : Int)).toNat) = UInt8.ofNat (48 + n) := by congr 1; try omega
set_option maxHeartbeats 1000000 in
/-- kelir/kelirref01.Decimal -/
theorem rdec_pure (n : Nat) : n ≤ 1000000 → APure Tryz.prog 116 [I n] (S (Lib.decDigits n)) := by
  induction n using Nat.strongRecOn with
  | _ n ih =>
  intro hn
  refine apure_of (rs := [.tmp 2]) Tryz.func116 rfl rfl (Nat.le_of_ble_eq_true rfl) (by simp [AV.pureL, AV.pureB, AV.pureE, pureE_map]) (rfl) fun e0 he0 => ?_
  refine aw_seq (aw_region ?_)
  refine asr (lr _) rfl ?_
  refine sq_nil (aw_seq (aw_seq (aw_region ?_)))
  refine mvr (lr _) rfl ?_
  refine sq_ev rfl (ev_gtr (lr _) (lr _)) ?_
  refine mvr (lr _) rfl ?_
  refine sq_split 5 (lr _) (fun g1 => ?_) (fun g1 => ?_)
  · skip
    have g1' := g1
    try simp only [qq] at g1'
    refine sq_yes rfl rfl (less_b g1) rfl (ev_mv (v := .raw _) (lr _)) ?_
    refine sq_yes rfl rfl (less_b g1) rfl (ev_lss (lr _) (lr _)) ?_
    refine sq_ev rfl (ev_pickT (v := .raw _) (less_b g1) (lr _)) ?_
    refine sq_nil ?_
    refine aw_cond (lr _) (fun c2 => ?_) (fun c2 => ?_)
    · skip
      have c2' := c2
      try simp only [qq] at c2'
      exfalso; omega
    · skip
      have c2' := c2
      try simp only [qq] at c2'
      refine aw_skip (aw_seq (aw_seq (aw_region ?_)))
      refine mvr (lr _) rfl ?_
      refine sq_ev rfl (ev_lss (lr _) (lr _)) ?_
      refine sq_nil ?_
      refine aw_cond (lr _) (fun c3 => ?_) (fun c3 => ?_)
      · skip
        have c3' := c3
        try simp only [qq] at c3'
        exfalso; omega
      · skip
        have c3' := c3
        try simp only [qq] at c3'
        refine aw_skip (aw_seq (aw_seq (aw_region ?_)))
        refine mvr (lr _) rfl ?_
        refine sq_ev rfl (ev_lss (lr _) (lr _)) ?_
        refine sq_nil ?_
        refine aw_cond (lr _) (fun c4 => ?_) (fun c4 => ?_)
        · skip
          have c4' := c4
          try simp only [qq] at c4'
          refine aw_seq (aw_region ?_)
          refine mvr (lr _) rfl ?_
          refine sq_ev rfl (ev_add (lr _) (lr _) (wr (by omega) (by omega))) ?_
          refine sq_ev rfl (ev_conv_int Tryz.underlying3 Tryz.underlying5 (lr _) (wr8 (by omega) (by omega))) ?_
          refine sq_ev rfl (ev_buildSlice (es := [[_]]) sf78 rfl rfl rfl rfl) ?_
          refine sq_ev rfl (ev_bytesS (ns := [_]) Tryz.underlying78 Tryz.underlying5 Tryz.underlying9 (less_slx _ _)) ?_
          refine asr (lr _) rfl ?_
          refine sq_nil (aw_ret ?_)
          exact retQ_pure (v := .raw _) rfl rfl (Less.eq (by rw [dd_small (n := n) (by omega)]; simp only [List.map_cons, List.map_nil, digit_eq]))
        · skip
          have c4' := c4
          try simp only [qq] at c4'
          refine aw_skip (aw_seq ?_)
          refine aw_draw 11 mo (by kernel_rfl) ?_
          refine dr_ev rfl (ev_mv (v := .raw _) (lr _)) ?_
          refine dr_ev rfl (ev_quo (q := ((n / 10 : Nat) : Int)) (lr _) (lr _) (by decide) (qn10 hn)) ?_
          refine dr_ev rfl (ev_call en116 (lr _) (ih (n / 10) (by omega) (by omega)) ⟨lr _, trivial⟩) ?_
          refine dr_ev rfl (ev_mv (v := .raw _) (lr _)) ?_
          refine dr_ev rfl (ev_less (ev_rem (lr _) (lr _) (by decide)) (less_int (by exact rn10))) ?_
          refine dr_ev rfl (ev_add (lr _) (lr _) (wr (by omega) (by omega))) ?_
          refine dr_ev rfl (ev_conv_int Tryz.underlying3 Tryz.underlying5 (lr _) (wr8 (by omega) (by omega))) ?_
          refine dr_ev rfl (ev_buildSlice (es := [[_]]) sf78 rfl rfl rfl rfl) ?_
          refine dr_ev rfl (ev_bytesS (ns := [_]) Tryz.underlying78 Tryz.underlying5 Tryz.underlying9 (less_slx _ _)) ?_
          refine dr_ev rfl (ev_catS (lr _) (lr _) (by have := decDigits_len 6 (n / 10) (by omega); simp; omega)) ?_
          refine dr_ev rfl (ev_as (v := .raw _) (lr _)) ?_
          refine dr_end (sq_nil (aw_ret ?_))
          exact retQ_pure (v := .raw _) rfl rfl (Less.eq (by rw [dd_big (n := n) (by omega)]; simp only [List.map_cons, List.map_nil, digit_eq]))
  · skip
    have g1' := g1
    try simp only [qq] at g1'
    exfalso; omega

theorem rdecimal_pure (n : Int) (h : 0 ≤ n ∧ n ≤ 1000000) : APure Tryz.prog 116 [I n] (S (Lib.itoa n)) := by
  obtain ⟨m, rfl⟩ : ∃ m : Nat, n = m := ⟨n.toNat, by omega⟩
  rw [itoa_nat]
  exact rdec_pure m (by omega)
set_option maxHeartbeats 1000000 in
/-- kelir/kelirref01.Row -/
theorem rrow_pure (w : List UInt8) (l : List Int) (hw : w.length ≤ 1000) (hl : l.length ≤ 1000) (hb : ∀ n ∈ l, 0 ≤ n ∧ n ≤ 1000000) : APure Tryz.prog 115 [S w, ints l] (S (w ++ numsL l)) := by
  refine apure_of (rs := [.tmp 4]) Tryz.func115 rfl rfl (Nat.le_of_ble_eq_true rfl) (by simp [AV.pureL, AV.pureB, AV.pureE, pureE_map]) (rfl) fun e0 he0 => ?_
  refine aw_seq (aw_region ?_)
  refine asr (lr _) rfl ?_
  refine sq_nil (aw_seq (aw_seq (aw_region ?_)))
  refine asr (lr _) rfl ?_
  refine sq_nil (aw_block ?_)
  refine aw_loopk (ι := { k : Nat // k ≤ l.length }) [1] (fun i => [(5, I i.1), (0, S (w ++ numsL (l.take i.1)))]) (fun H i => H) (fun i => l.length - i.1) (⟨0, Nat.zero_le _⟩) ⟨lr _, Less.eq (by show S w = _; simp [numsL]), lr _, trivial⟩ rfl ?_
  rintro ⟨k, hk⟩
  dsimp only [keepS, St.put, sget, slotsOf, List.map_cons, List.map_nil, List.cons_append, List.nil_append, List.length_cons, List.length_nil, Nat.reduceBEq, Nat.reduceAdd, cond_true, cond_false]
  have hnl := numsL_len l k (fun n h => by have := hb n h; omega)
  refine aw_seq (aw_seq (aw_region ?_))
  refine mvr (lr _) rfl ?_
  refine sq_ev rfl (ev_mv (v := .sl _ _) (lr _)) ?_
  refine sq_ev rfl (ev_len_map sl34 (lr _)) ?_
  refine sq_ev rfl (ev_lss (lr _) (lr _)) ?_
  refine sq_nil ?_
  refine aw_cond (lr _) (fun c1 => ?_) (fun c1 => ?_)
  · skip
    have c1' := c1
    try simp only [qq] at c1'
    have hk' : k < l.length := by omega
    have hv := hb _ (List.getElem_mem hk')
    have eL : S (w ++ numsL (l.take k) ++ [32] ++ Lib.itoa l[k]) = S (w ++ numsL (l.take (k + 1))) := by rw [numsL_take hk']; simp
    refine aw_skip (aw_seq (aw_block (aw_region ?_)))
    refine mvr (lr _) rfl ?_
    refine sq_ev rfl (ev_catS (lr _) (lr _) (by simp; omega)) ?_
    refine sq_ev rfl (ev_mv (v := .sl _ _) (lr _)) ?_
    refine mvr (lr _) rfl ?_
    refine sq_ev rfl (ev_index_map sl34 (lr _) (lr _) rfl (by omega)) ?_
    refine sq_ev rfl (ev_load_i (lr _) ty3 rfl) ?_
    refine sq_ev rfl (ev_call en116 (lr _) (rdecimal_pure _ hv) ⟨lr _, trivial⟩) ?_
    refine sq_ev rfl (ev_catS (lr _) (lr _) (by have := itoa_len (n := l[k]) (by omega); simp; omega)) ?_
    refine asr (lr _) rfl ?_
    refine sq_nil (aw_region ?_)
    refine mvr (lr _) rfl ?_
    refine sq_ev rfl (ev_add (lr _) (lr _) (wr (by omega) (by omega))) ?_
    refine asr (lr _) rfl ?_
    refine sq_nil ?_
    exact ⟨⟨k + 1, by omega⟩, by simp only; omega, Sub.slots ⟨lr _, Less.eq eL, lr _, trivial⟩⟩
  · skip
    have c1' := c1
    try simp only [qq] at c1'
    obtain rfl : k = l.length := by omega
    refine aw_exit (aw_seq (aw_region ?_))
    refine mvr (lr _) rfl ?_
    refine asr (lr _) rfl ?_
    refine sq_nil (aw_ret ?_)
    exact retQ_pure (v := .raw _) rfl rfl (Less.eq (by simp))

set_option maxHeartbeats 2000000 in
/-- kelir/kelirref01.Sealed -/
theorem rsealed_pure (ls : List (List UInt8)) (hl : ls.length ≤ 1500) (hb : ∀ l ∈ ls, l.length ≤ 1000) : APure Tryz.prog 117 [.sl 1 (ls.map fun l => [S l]), I 181] (S (sealL ls)) := by
 refine apure_of (rs := [.tmp 4]) Tryz.func117 rfl rfl (Nat.le_of_ble_eq_true rfl) (by simp [AV.pureL, AV.pureB, AV.pureE, pureE_map]) (rfl) fun e0 he0 => ?_
 refine aw_seq (aw_region ?_)
 refine asr (lr _) rfl ?_
 refine sq_nil (aw_seq (aw_region ?_))
 refine asr (lr _) rfl ?_
 refine asr (lr _) rfl ?_
 refine sq_nil (aw_seq (aw_seq (aw_region ?_)))
 refine asr (lr _) rfl ?_
 refine sq_nil (aw_block ?_)
 refine aw_loopk (ι := { i : Nat // i ≤ ls.length }) [0, 1] (fun i => [(7, I i.1), (5, S (outT ls i.1)), (6, I (ctT ls i.1))]) (fun H i => H) (fun i => ls.length - i.1) (⟨0, Nat.zero_le _⟩) ⟨lr _, lr _, lr _, lr _, lr _, trivial⟩ rfl ?_
 rintro ⟨i, hi⟩
 dsimp only [keepS, St.put, sget, slotsOf, List.map_cons, List.map_nil, List.cons_append, List.nil_append, List.length_cons, List.length_nil, Nat.reduceBEq, Nat.reduceAdd, cond_true, cond_false]
 have hol := outT_len hb i (by omega)
 have hct := ctT_bd (by omega) hb i (by omega)
 refine aw_seq (aw_seq (aw_region ?_))
 refine mvr (lr _) rfl ?_
 refine sq_ev rfl (ev_mv (v := .sl _ _) (lr _)) ?_
 refine sq_ev rfl (ev_len_map sl138 (lr _)) ?_
 refine sq_ev rfl (ev_lss (lr _) (lr _)) ?_
 refine sq_nil ?_
 refine aw_cond (lr _) (fun c1 => ?_) (fun c1 => ?_)
 ·
  have c1' := c1
  try simp only [qq] at c1'
  have hi3 : i < ls.length := by omega
  have hll := hb _ (List.getElem_mem hi3)
  refine aw_skip (aw_seq (aw_block (aw_seq (aw_seq (aw_region ?_)))))
  refine asr (lr _) rfl ?_
  refine sq_nil (aw_block ?_)
  refine aw_loopk (ι := { k : Nat // k ≤ ls[i].length }) [0, 1, 5, 7] (fun k => [(8, I k.1), (6, I (ctT ls i + csT ((i : Int) + 1) ls[i] k.1))]) (fun H k => H) (fun k => ls[i].length - k.1) (⟨0, Nat.zero_le _⟩) ⟨lr _, (by exact less_int (by simp [csT])), lr _, lr _, lr _, lr _, trivial⟩ rfl ?_
  rintro ⟨k, hk⟩
  dsimp only [keepS, St.put, sget, slotsOf, List.map_cons, List.map_nil, List.cons_append, List.nil_append, List.length_cons, List.length_nil, Nat.reduceBEq, Nat.reduceAdd, cond_true, cond_false]
  have hcs := csT_bd (m := (i : Int) + 1) ⟨by omega, by omega⟩ ls[i] k hk hll
  refine aw_seq (aw_seq (aw_region ?_))
  refine mvr (lr _) rfl ?_
  refine sq_ev rfl (ev_mv (v := .sl _ _) (lr _)) ?_
  refine mvr (lr _) rfl ?_
  refine sq_ev rfl (ev_index_map sl138 (lr _) (lr _) rfl (by omega)) ?_
  refine sq_ev rfl (ev_load_i (lr _) ty9 rfl) ?_
  refine sq_ev rfl (ev_lenS Tryz.underlying9 (lr _)) ?_
  refine sq_ev rfl (ev_lss (lr _) (lr _)) ?_
  refine sq_nil ?_
  refine aw_cond (lr _) (fun c2 => ?_) (fun c2 => ?_)
  ·
   have c2' := c2
   try simp only [qq] at c2'
   have hk' : k < ls[i].length := by omega
   have htb := term_bd (b := ls[i][k]) (j := k) (m := (i : Int) + 1) (by omega) ⟨by omega, by omega⟩
   have hb8 : (ls[i][k]).toNat < 256 := UInt8.toNat_lt _
   have eK : ctT ls i + csT ((i : Int) + 1) ls[i] k + (ls[i][k].toNat : Int) * ((k : Int) + 1) * ((i : Int) + 1) = ctT ls i + csT ((i : Int) + 1) ls[i] (k + 1) := by rw [csT_succ _ hk']; omega
   refine aw_skip (aw_seq (aw_block (aw_region ?_)))
   refine mvr (lr _) rfl ?_
   refine sq_ev rfl (ev_mv (v := .sl _ _) (lr _)) ?_
   refine mvr (lr _) rfl ?_
   refine sq_ev rfl (ev_index_map sl138 (lr _) (lr _) rfl (by omega)) ?_
   refine sq_ev rfl (ev_load_i (lr _) ty9 rfl) ?_
   refine mvr (lr _) rfl ?_
   refine sq_ev rfl (ev_idxS Tryz.underlying9 (lr _) (lr _) rfl (by omega)) ?_
   refine sq_ev rfl (ev_conv_int Tryz.underlying5 Tryz.underlying3 (lr _) (wr (by omega) (by omega))) ?_
   refine mvr (lr _) rfl ?_
   refine sq_ev rfl (ev_add (lr _) (lr _) (wr (by omega) (by omega))) ?_
   refine sq_ev rfl (ev_mul (lr _) (lr _) (wr (by omega) (by omega))) ?_
   refine mvr (lr _) rfl ?_
   refine sq_ev rfl (ev_add (lr _) (lr _) (wr (by omega) (by omega))) ?_
   refine sq_ev rfl (ev_mul (lr _) (lr _) (wr (by omega) (by omega))) ?_
   refine sq_ev rfl (ev_add (lr _) (lr _) (wr (by omega) (by omega))) ?_
   refine asr (lr _) rfl ?_
   refine sq_nil (aw_region ?_)
   refine mvr (lr _) rfl ?_
   refine sq_ev rfl (ev_add (lr _) (lr _) (wr (by omega) (by omega))) ?_
   refine asr (lr _) rfl ?_
   refine sq_nil ?_
   exact ⟨⟨k + 1, by omega⟩, by simp only; omega, Sub.slots ⟨lr _, (by exact less_int eK), lr _, lr _, lr _, lr _, trivial⟩⟩
  ·
   have c2' := c2
   try simp only [qq] at c2'
   obtain rfl : k = ls[i].length := by omega
   have eO : S (outT ls i ++ ls[i] ++ [10]) = S (outT ls (i + 1)) := by rw [outT_succ hi3]; simp
   have eC : ctT ls i + csT ((i : Int) + 1) ls[i] ls[i].length = ctT ls (i + 1) := by rw [ctT_succ hi3]; rfl
   refine aw_exit (aw_region ?_)
   refine mvr (lr _) rfl ?_
   refine sq_ev rfl (ev_mv (v := .sl _ _) (lr _)) ?_
   refine mvr (lr _) rfl ?_
   refine sq_ev rfl (ev_index_map sl138 (lr _) (lr _) rfl (by omega)) ?_
   refine sq_ev rfl (ev_load_i (lr _) ty9 rfl) ?_
   refine sq_ev rfl (ev_catS (lr _) (lr _) (by omega)) ?_
   refine sq_ev rfl (ev_catS (lr _) (lr _) (by simp; omega)) ?_
   refine asr (lr _) rfl ?_
   refine sq_nil (aw_region ?_)
   refine mvr (lr _) rfl ?_
   refine sq_ev rfl (ev_add (lr _) (lr _) (wr (by omega) (by omega))) ?_
   refine asr (lr _) rfl ?_
   refine sq_nil ?_
   exact ⟨⟨i + 1, by omega⟩, by simp only; omega, Sub.slots ⟨lr _, Less.eq eO, (by exact less_int eC), lr _, lr _, trivial⟩⟩
 ·
  have c1' := c1
  try simp only [qq] at c1'
  obtain rfl : i = ls.length := by omega
  refine aw_exit (aw_seq (aw_region ?_))
  refine mvr (lr _) rfl ?_
  refine mvr (lr _) rfl ?_
  refine sq_ev rfl (ev_less (ev_rem (lr _) (lr _) (by decide)) (less_int (Int.tmod_eq_emod_of_nonneg (by omega)))) ?_
  refine asr (lr _) rfl ?_
  refine sq_nil (aw_seq ?_)
  have i1 := itoa_len (n := ctT ls ls.length % 181 / 100) ⟨by omega, by omega⟩
  have i2 := itoa_len (n := ctT ls ls.length % 181 / 10 % 10) ⟨by omega, by omega⟩
  have i3 := itoa_len (n := ctT ls ls.length % 181 % 10) ⟨by omega, by omega⟩
  refine aw_region ?_
  refine mvr (lr _) rfl ?_
  refine sq_ev rfl (ev_catS (lr _) (lr _) (by simp; omega)) ?_
  refine mvr (lr _) rfl ?_
  refine sq_ev rfl (ev_quo (q := ctT ls ls.length % 181 / 100) (lr _) (lr _) (by decide) (qd (by omega) (by omega) (by decide))) ?_
  refine sq_ev rfl (ev_call en116 (lr _) (rdecimal_pure _ (by omega)) ⟨lr _, trivial⟩) ?_
  refine sq_ev rfl (ev_catS (lr _) (lr _) (by simp; omega)) ?_
  refine mvr (lr _) rfl ?_
  refine sq_ev rfl (ev_quo (q := ctT ls ls.length % 181 / 10) (lr _) (lr _) (by decide) (qd (by omega) (by omega) (by decide))) ?_
  refine sq_ev rfl (ev_less (ev_rem (lr _) (lr _) (by decide)) (less_int (Int.tmod_eq_emod_of_nonneg (by omega)))) ?_
  refine sq_ev rfl (ev_call en116 (lr _) (rdecimal_pure _ (by omega)) ⟨lr _, trivial⟩) ?_
  refine sq_ev rfl (ev_catS (lr _) (lr _) (by simp; omega)) ?_
  refine mvr (lr _) rfl ?_
  refine sq_ev rfl (ev_less (ev_rem (lr _) (lr _) (by decide)) (less_int (Int.tmod_eq_emod_of_nonneg (by omega)))) ?_
  refine sq_ev rfl (ev_call en116 (lr _) (rdecimal_pure _ (by omega)) ⟨lr _, trivial⟩) ?_
  refine sq_ev rfl (ev_catS (lr _) (lr _) (by simp; omega)) ?_
  refine sq_ev rfl (ev_catS (lr _) (lr _) (by simp; omega)) ?_
  refine asr (lr _) rfl ?_
  refine sq_nil (aw_ret ?_)
  exact retQ_pure (v := .raw _) rfl rfl (Less.eq (by simp [sealL, digs3]))

/-- a plan whose numbers are no less than 0 -/
structure NnP (p : Pl) : Prop where
  head : ∀ n ∈ headL p, 0 ≤ n
  sc : ∀ x ∈ p.scenes, 0 ≤ x.part ∧ 0 ≤ x.least ∧ 0 ≤ x.most
theorem headL_eq (p : Pl) : headL p = [p.beg, p.s0l, p.s0h, p.s1l, p.s1h, p.dl, p.dh] := rfl
def wordL (x : Sc) : List UInt8 := if x.loose = true then wBattle else wScene
theorem line_yes {p : Pl} {x : Sc} (h : 0 ≤ x.wants) : wordL x ++ numsL [x.part, x.least, x.most] ++ [32] ++ Lib.itoa x.wants = lineL p (some x) := by simp [lineL, wordL, toldL, h, numsL]
theorem line_no {p : Pl} {x : Sc} (h : ¬ 0 ≤ x.wants) : wordL x ++ numsL [x.part, x.least, x.most] ++ [32] ++ [45] = lineL p (some x) := by simp [lineL, wordL, toldL, h, numsL]
theorem numsL3 {a b c : Int} (h : (0 ≤ a ∧ a ≤ 1000000) ∧ (0 ≤ b ∧ b ≤ 1000000) ∧ (0 ≤ c ∧ c ≤ 1000000)) : ∀ n ∈ [a, b, c], 0 ≤ n ∧ n ≤ 1000000 := by
  intro n hn; simp only [List.mem_cons, List.not_mem_nil, or_false] at hn; rcases hn with rfl | rfl | rfl <;> omega
theorem told3 {p : Pl} (sm : SmP p) (nn : NnP p) {x : Sc} (hx : x ∈ p.scenes) : ((0 ≤ x.part ∧ x.part ≤ 1000000) ∧ (0 ≤ x.least ∧ x.least ≤ 1000000) ∧ (0 ≤ x.most ∧ x.most ≤ 1000000)) ∧ (0 ≤ x.wants → x.wants ≤ 1000000) := by
  have h1 := sm.sc x hx
  have h2 := nn.sc x hx
  have a1 := h1 x.part (by simp [toldL]); have a2 := h1 x.least (by simp [toldL]); have a3 := h1 x.most (by simp [toldL])
  exact ⟨⟨⟨h2.1, a1.2⟩, ⟨h2.2.1, a2.2⟩, h2.2.2, a3.2⟩, fun h => (h1 x.wants (by simp [toldL, h])).2⟩
theorem nums3_len {a b c : Int} (h : (0 ≤ a ∧ a ≤ 1000000) ∧ (0 ≤ b ∧ b ≤ 1000000) ∧ (0 ≤ c ∧ c ≤ 1000000)) : (numsL [a, b, c]).length ≤ 27 :=
  numsL_len' [a, b, c] fun n hn => by have := numsL3 h n hn; omega
theorem inE_S (n : Nat) (l : List (List UInt8)) : AV.inE n (l.map fun x => [S x]) = true := inE_map fun x _ => by simp [AV.inL, AV.inB]
set_option maxHeartbeats 2000000 in
/-- kelir/kelirref03.Print -/
theorem rprint_pure (p : Pl) (sm : SmP p) (nn : NnP p) : APure Tryz.prog 52 [plan p] (S (sheetL p)) := by
  refine apure_of (rs := [.tmp 2]) Tryz.func52 rfl rfl (Nat.le_of_ble_eq_true rfl) (by simp [AV.pureL, AV.pureB, AV.pureE, pureE_map]) (by simp [AV.pureL, AV.pureB, AV.pureE, pureE_map]) fun e0 he0 => ?_
  refine aw_seq (aw_region ?_)
  refine sq_box rfl (lr _) rfl ?_
  refine asr (lr _) rfl ?_
  refine sq_nil (aw_seq (aw_region ?_))
  refine sq_ev rfl (ev_fieldAddr fo27_0 (lr _)) ?_
  refine sq_ev rfl (ev_load (lr _) rfl ty3 rfl) ?_
  refine sq_ev rfl (ev_fieldAddr fo27_1 (lr _)) ?_
  refine sq_ev rfl (ev_index_box ar24 (lr _) (lr _) rfl (by decide)) ?_
  refine sq_ev rfl (ev_fieldAddr fo23_0 (lr _)) ?_
  refine sq_ev rfl (ev_load (lr _) rfl ty3 rfl) ?_
  refine sq_ev rfl (ev_fieldAddr fo27_1 (lr _)) ?_
  refine sq_ev rfl (ev_index_box ar24 (lr _) (lr _) rfl (by decide)) ?_
  refine sq_ev rfl (ev_fieldAddr fo23_1 (lr _)) ?_
  refine sq_ev rfl (ev_load (lr _) rfl ty3 rfl) ?_
  refine sq_ev rfl (ev_fieldAddr fo27_1 (lr _)) ?_
  refine sq_ev rfl (ev_index_box ar24 (lr _) (lr _) rfl (by decide)) ?_
  refine sq_ev rfl (ev_fieldAddr fo23_0 (lr _)) ?_
  refine sq_ev rfl (ev_load (lr _) rfl ty3 rfl) ?_
  refine sq_ev rfl (ev_fieldAddr fo27_1 (lr _)) ?_
  refine sq_ev rfl (ev_index_box ar24 (lr _) (lr _) rfl (by decide)) ?_
  refine sq_ev rfl (ev_fieldAddr fo23_1 (lr _)) ?_
  refine sq_ev rfl (ev_load (lr _) rfl ty3 rfl) ?_
  refine sq_ev rfl (ev_fieldAddr fo27_2 (lr _)) ?_
  refine sq_ev rfl (ev_fieldAddr fo23_0 (lr _)) ?_
  refine sq_ev rfl (ev_load (lr _) rfl ty3 rfl) ?_
  refine sq_ev rfl (ev_fieldAddr fo27_2 (lr _)) ?_
  refine sq_ev rfl (ev_fieldAddr fo23_1 (lr _)) ?_
  refine sq_ev rfl (ev_load (lr _) rfl ty3 rfl) ?_
  refine sq_ev rfl (ev_buildSlice (es := [[_], [_], [_], [_], [_], [_], [_]]) sf34 rfl rfl rfl rfl) ?_
  refine sq_ev rfl (ev_call en115 (lr _) (rrow_pure wNight (headL p) (by decide) (by rw [headL_eq]; simp) (fun n h => ⟨nn.head n h, (sm.head n h).2⟩)) ⟨lr _, less_slx _ _, trivial⟩) ?_
  refine sq_ev rfl (ev_buildSlice (es := [[_]]) sf138 rfl rfl rfl rfl) ?_
  refine sq_ev rfl (ev_as (v := .slx _ _) (lr _)) ?_
  refine sq_nil (aw_seq (aw_seq (aw_region ?_)))
  refine asr (lr _) rfl ?_
  refine sq_nil (aw_block ?_)
  refine aw_sub (sub_token_slx 3 1 (lr _)) ?_
  refine aw_loopk (ι := { k : Nat // k ≤ p.scenes.length }) [1] (fun i => [(4, I i.1), (3, .own 1 1 (((rowsT p i.1).map (lineL p)).map fun l => [S l]))]) (fun H i => H.set 1 (.tok (((rowsT p i.1).map (lineL p)).map fun l => [S l]).length)) (fun i => p.scenes.length - i.1) (⟨0, Nat.zero_le _⟩) ⟨lr _, lr _, lr _, trivial⟩ rfl ?_
  rintro ⟨k, hk⟩
  dsimp only [keepS, St.put, sget, slotsOf, List.map_cons, List.map_nil, List.cons_append, List.nil_append, List.length_cons, List.length_nil, Nat.reduceBEq, Nat.reduceAdd, cond_true, cond_false]
  have hrl := rowsT_len hk
  have hsl := sm.len
  refine aw_seq (aw_seq (aw_region ?_))
  refine mvr (lr _) rfl ?_
  refine sq_ev rfl (ev_fieldAddr fo27_3 (lr _)) ?_
  refine sq_ev rfl (ev_load (lr _) rfl ty25 rfl) ?_
  refine sq_ev rfl (ev_len_map sl25 (lr _)) ?_
  refine sq_ev rfl (ev_lss (lr _) (lr _)) ?_
  refine sq_nil ?_
  refine aw_cond (lr _) (fun c1 => ?_) (fun c1 => ?_)
  · skip
    have c1' := c1
    try simp only [qq] at c1'
    have hk' : k < p.scenes.length := by omega
    have ht3 := told3 sm nn (List.getElem_mem hk')
    refine aw_skip (aw_seq (aw_block (aw_seq (aw_region ?_))))
    refine sq_ev rfl (ev_fieldAddr fo27_3 (lr _)) ?_
    refine sq_ev rfl (ev_load (lr _) rfl ty25 rfl) ?_
    refine mvr (lr _) rfl ?_
    refine sq_ev rfl (ev_index_map sl25 (lr _) (lr _) rfl (by omega)) ?_
    refine sq_ev rfl (ev_load_agg_i (lr _) ty84 (Nat.le_of_ble_eq_true rfl)) ?_
    refine sq_alloc rfl z84 ?_
    refine sq_store rfl (lr _) (lr _) rfl rfl ty84 rfl rfl ?_
    refine sq_nil (aw_seq (aw_region ?_))
    refine asr (lr _) rfl ?_
    refine asr (lr _) rfl ?_
    refine sq_nil (aw_seq (aw_seq (aw_region ?_)))
    refine sq_ev rfl (ev_fieldAddr fo84_3 (lr _)) ?_
    refine sq_ev rfl (ev_load (lr _) rfl ty4 rfl) ?_
    refine sq_nil ?_
    refine aw_cond (lr _) (fun c2 => ?_) (fun c2 => ?_)
    · skip
      have c2' := c2
      try simp only [qq] at c2'
      refine aw_region ?_
      refine asr (lr _) rfl ?_
      refine sq_nil (aw_seq (aw_seq (aw_region ?_)))
      refine sq_ev rfl (ev_fieldAddr fo84_4 (lr _)) ?_
      refine sq_ev rfl (ev_load (lr _) rfl ty3 rfl) ?_
      refine sq_ev rfl (ev_geq (lr _) (lr _)) ?_
      refine sq_nil ?_
      refine aw_cond (lr _) (fun c3 => ?_) (fun c3 => ?_)
      · skip
        have c3' := c3
        try simp only [qq] at c3'
        have hil := itoa_len (n := p.scenes[k].wants) ⟨by omega, ht3.2 (by omega)⟩
        have eS : ((rowsT p (k + 1)).map (lineL p)).map (fun l => [S l]) = ((rowsT p k).map (lineL p)).map (fun l => [S l]) ++ [[S (wBattle ++ numsL [p.scenes[k].part, p.scenes[k].least, p.scenes[k].most] ++ [32] ++ Lib.itoa p.scenes[k].wants)]] := by rw [rowsT_succ hk', List.map_append, List.map_append]; simp only [List.map_cons, List.map_nil]; rw [← line_yes (by omega : 0 ≤ p.scenes[k].wants), show wordL p.scenes[k] = wBattle by simp [wordL, c2']]
        refine aw_region ?_
        refine sq_ev rfl (ev_fieldAddr fo84_4 (lr _)) ?_
        refine sq_ev rfl (ev_load (lr _) rfl ty3 rfl) ?_
        refine sq_ev rfl (ev_call en116 (lr _) (rdecimal_pure _ ⟨by omega, ht3.2 (by omega)⟩) ⟨lr _, trivial⟩) ?_
        refine asr (lr _) rfl ?_
        refine sq_nil (aw_region ?_)
        refine sq_ev rfl (ev_mv (v := .own _ _ _) (lr _)) ?_
        refine mvr (lr _) rfl ?_
        refine sq_ev rfl (ev_fieldAddr fo84_0 (lr _)) ?_
        refine sq_ev rfl (ev_load (lr _) rfl ty3 rfl) ?_
        refine sq_ev rfl (ev_fieldAddr fo84_1 (lr _)) ?_
        refine sq_ev rfl (ev_load (lr _) rfl ty3 rfl) ?_
        refine sq_ev rfl (ev_fieldAddr fo84_2 (lr _)) ?_
        refine sq_ev rfl (ev_load (lr _) rfl ty3 rfl) ?_
        refine sq_ev rfl (ev_buildSlice (es := [[_], [_], [_]]) sf34 rfl rfl rfl rfl) ?_
        refine sq_ev rfl (ev_call en115 (lr _) (rrow_pure _ [_, _, _] (by decide) (by simp) (numsL3 ht3.1)) ⟨lr _, less_slx _ _, trivial⟩) ?_
        refine sq_ev rfl (ev_catS (lr _) (lr _) (by have := nums3_len ht3.1; have : wBattle.length = 6 := rfl; have : wScene.length = 5 := rfl; simp; omega)) ?_
        refine mvr (lr _) rfl ?_
        refine sq_ev rfl (ev_catS (lr _) (lr _) (by have := nums3_len ht3.1; have : wBattle.length = 6 := rfl; have : wScene.length = 5 := rfl; simp; omega)) ?_
        refine sq_ev rfl (ev_buildSlice (es := [[_]]) sf138 rfl rfl rfl rfl) ?_
        refine sq_append rfl sf138 Tryz.underlying138 rfl rfl (less_slx _ _) (Nat.succ_pos _) (by simp; omega) (by simp; omega) ?_
        refine sq_ev rfl (ev_as (v := .own _ _ _) (lr _)) ?_
        refine sq_nil (aw_region ?_)
        refine mvr (lr _) rfl ?_
        refine sq_ev rfl (ev_add (lr _) (lr _) (wr (by omega) (by omega))) ?_
        refine asr (lr _) rfl ?_
        refine sq_nil ?_
        exact ⟨⟨k + 1, by omega⟩, by simp only; omega, Sub.fin 2 ⟨lr _, Less.eq (b := .own 1 1 (((rowsT p (k + 1)).map (lineL p)).map fun l => [S l])) (by rw [eS] <;> rfl), lr _, trivial⟩ (congrArg (fun n => [_, AObj.tok n]) (congrArg List.length eS.symm)) (by simp [slotsIn, objsIn, sget, keepS, AObj.inB, AV.inB, AV.inL, AV.inE, inE_map, inE_S, inE_ints, inE_sc, -List.map_append, -List.map_take, -List.map_map]) (by simp [slotsIn, objsIn, sget, keepS, AObj.inB, AV.inB, AV.inL, AV.inE, inE_map, inE_S, inE_ints, inE_sc, -List.map_append, -List.map_take, -List.map_map]) (by simp [he0])⟩
      · skip
        have c3' := c3
        try simp only [qq] at c3'
        have eS : ((rowsT p (k + 1)).map (lineL p)).map (fun l => [S l]) = ((rowsT p k).map (lineL p)).map (fun l => [S l]) ++ [[S (wBattle ++ numsL [p.scenes[k].part, p.scenes[k].least, p.scenes[k].most] ++ [32] ++ [45])]] := by rw [rowsT_succ hk', List.map_append, List.map_append]; simp only [List.map_cons, List.map_nil]; rw [← line_no (by omega : ¬ 0 ≤ p.scenes[k].wants), show wordL p.scenes[k] = wBattle by simp [wordL, c2']]
        refine aw_skip (aw_region ?_)
        refine sq_ev rfl (ev_mv (v := .own _ _ _) (lr _)) ?_
        refine mvr (lr _) rfl ?_
        refine sq_ev rfl (ev_fieldAddr fo84_0 (lr _)) ?_
        refine sq_ev rfl (ev_load (lr _) rfl ty3 rfl) ?_
        refine sq_ev rfl (ev_fieldAddr fo84_1 (lr _)) ?_
        refine sq_ev rfl (ev_load (lr _) rfl ty3 rfl) ?_
        refine sq_ev rfl (ev_fieldAddr fo84_2 (lr _)) ?_
        refine sq_ev rfl (ev_load (lr _) rfl ty3 rfl) ?_
        refine sq_ev rfl (ev_buildSlice (es := [[_], [_], [_]]) sf34 rfl rfl rfl rfl) ?_
        refine sq_ev rfl (ev_call en115 (lr _) (rrow_pure _ [_, _, _] (by decide) (by simp) (numsL3 ht3.1)) ⟨lr _, less_slx _ _, trivial⟩) ?_
        refine sq_ev rfl (ev_catS (lr _) (lr _) (by have := nums3_len ht3.1; have : wBattle.length = 6 := rfl; have : wScene.length = 5 := rfl; simp; omega)) ?_
        refine mvr (lr _) rfl ?_
        refine sq_ev rfl (ev_catS (lr _) (lr _) (by have := nums3_len ht3.1; have : wBattle.length = 6 := rfl; have : wScene.length = 5 := rfl; simp; omega)) ?_
        refine sq_ev rfl (ev_buildSlice (es := [[_]]) sf138 rfl rfl rfl rfl) ?_
        refine sq_append rfl sf138 Tryz.underlying138 rfl rfl (less_slx _ _) (Nat.succ_pos _) (by simp; omega) (by simp; omega) ?_
        refine sq_ev rfl (ev_as (v := .own _ _ _) (lr _)) ?_
        refine sq_nil (aw_region ?_)
        refine mvr (lr _) rfl ?_
        refine sq_ev rfl (ev_add (lr _) (lr _) (wr (by omega) (by omega))) ?_
        refine asr (lr _) rfl ?_
        refine sq_nil ?_
        exact ⟨⟨k + 1, by omega⟩, by simp only; omega, Sub.fin 2 ⟨lr _, Less.eq (b := .own 1 1 (((rowsT p (k + 1)).map (lineL p)).map fun l => [S l])) (by rw [eS] <;> rfl), lr _, trivial⟩ (congrArg (fun n => [_, AObj.tok n]) (congrArg List.length eS.symm)) (by simp [slotsIn, objsIn, sget, keepS, AObj.inB, AV.inB, AV.inL, AV.inE, inE_map, inE_S, inE_ints, inE_sc, -List.map_append, -List.map_take, -List.map_map]) (by simp [slotsIn, objsIn, sget, keepS, AObj.inB, AV.inB, AV.inL, AV.inE, inE_map, inE_S, inE_ints, inE_sc, -List.map_append, -List.map_take, -List.map_map]) (by simp [he0])⟩
    · skip
      have c2' := c2
      try simp only [qq] at c2'
      refine aw_skip (aw_seq (aw_seq (aw_region ?_)))
      refine sq_ev rfl (ev_fieldAddr fo84_4 (lr _)) ?_
      refine sq_ev rfl (ev_load (lr _) rfl ty3 rfl) ?_
      refine sq_ev rfl (ev_geq (lr _) (lr _)) ?_
      refine sq_nil ?_
      refine aw_cond (lr _) (fun c4 => ?_) (fun c4 => ?_)
      · skip
        have c4' := c4
        try simp only [qq] at c4'
        have hil := itoa_len (n := p.scenes[k].wants) ⟨by omega, ht3.2 (by omega)⟩
        have eS : ((rowsT p (k + 1)).map (lineL p)).map (fun l => [S l]) = ((rowsT p k).map (lineL p)).map (fun l => [S l]) ++ [[S (wScene ++ numsL [p.scenes[k].part, p.scenes[k].least, p.scenes[k].most] ++ [32] ++ Lib.itoa p.scenes[k].wants)]] := by rw [rowsT_succ hk', List.map_append, List.map_append]; simp only [List.map_cons, List.map_nil]; rw [← line_yes (by omega : 0 ≤ p.scenes[k].wants), show wordL p.scenes[k] = wScene by simp [wordL, c2']]
        refine aw_region ?_
        refine sq_ev rfl (ev_fieldAddr fo84_4 (lr _)) ?_
        refine sq_ev rfl (ev_load (lr _) rfl ty3 rfl) ?_
        refine sq_ev rfl (ev_call en116 (lr _) (rdecimal_pure _ ⟨by omega, ht3.2 (by omega)⟩) ⟨lr _, trivial⟩) ?_
        refine asr (lr _) rfl ?_
        refine sq_nil (aw_region ?_)
        refine sq_ev rfl (ev_mv (v := .own _ _ _) (lr _)) ?_
        refine mvr (lr _) rfl ?_
        refine sq_ev rfl (ev_fieldAddr fo84_0 (lr _)) ?_
        refine sq_ev rfl (ev_load (lr _) rfl ty3 rfl) ?_
        refine sq_ev rfl (ev_fieldAddr fo84_1 (lr _)) ?_
        refine sq_ev rfl (ev_load (lr _) rfl ty3 rfl) ?_
        refine sq_ev rfl (ev_fieldAddr fo84_2 (lr _)) ?_
        refine sq_ev rfl (ev_load (lr _) rfl ty3 rfl) ?_
        refine sq_ev rfl (ev_buildSlice (es := [[_], [_], [_]]) sf34 rfl rfl rfl rfl) ?_
        refine sq_ev rfl (ev_call en115 (lr _) (rrow_pure _ [_, _, _] (by decide) (by simp) (numsL3 ht3.1)) ⟨lr _, less_slx _ _, trivial⟩) ?_
        refine sq_ev rfl (ev_catS (lr _) (lr _) (by have := nums3_len ht3.1; have : wBattle.length = 6 := rfl; have : wScene.length = 5 := rfl; simp; omega)) ?_
        refine mvr (lr _) rfl ?_
        refine sq_ev rfl (ev_catS (lr _) (lr _) (by have := nums3_len ht3.1; have : wBattle.length = 6 := rfl; have : wScene.length = 5 := rfl; simp; omega)) ?_
        refine sq_ev rfl (ev_buildSlice (es := [[_]]) sf138 rfl rfl rfl rfl) ?_
        refine sq_append rfl sf138 Tryz.underlying138 rfl rfl (less_slx _ _) (Nat.succ_pos _) (by simp; omega) (by simp; omega) ?_
        refine sq_ev rfl (ev_as (v := .own _ _ _) (lr _)) ?_
        refine sq_nil (aw_region ?_)
        refine mvr (lr _) rfl ?_
        refine sq_ev rfl (ev_add (lr _) (lr _) (wr (by omega) (by omega))) ?_
        refine asr (lr _) rfl ?_
        refine sq_nil ?_
        exact ⟨⟨k + 1, by omega⟩, by simp only; omega, Sub.fin 2 ⟨lr _, Less.eq (b := .own 1 1 (((rowsT p (k + 1)).map (lineL p)).map fun l => [S l])) (by rw [eS] <;> rfl), lr _, trivial⟩ (congrArg (fun n => [_, AObj.tok n]) (congrArg List.length eS.symm)) (by simp [slotsIn, objsIn, sget, keepS, AObj.inB, AV.inB, AV.inL, AV.inE, inE_map, inE_S, inE_ints, inE_sc, -List.map_append, -List.map_take, -List.map_map]) (by simp [slotsIn, objsIn, sget, keepS, AObj.inB, AV.inB, AV.inL, AV.inE, inE_map, inE_S, inE_ints, inE_sc, -List.map_append, -List.map_take, -List.map_map]) (by simp [he0])⟩
      · skip
        have c4' := c4
        try simp only [qq] at c4'
        have eS : ((rowsT p (k + 1)).map (lineL p)).map (fun l => [S l]) = ((rowsT p k).map (lineL p)).map (fun l => [S l]) ++ [[S (wScene ++ numsL [p.scenes[k].part, p.scenes[k].least, p.scenes[k].most] ++ [32] ++ [45])]] := by rw [rowsT_succ hk', List.map_append, List.map_append]; simp only [List.map_cons, List.map_nil]; rw [← line_no (by omega : ¬ 0 ≤ p.scenes[k].wants), show wordL p.scenes[k] = wScene by simp [wordL, c2']]
        refine aw_skip (aw_region ?_)
        refine sq_ev rfl (ev_mv (v := .own _ _ _) (lr _)) ?_
        refine mvr (lr _) rfl ?_
        refine sq_ev rfl (ev_fieldAddr fo84_0 (lr _)) ?_
        refine sq_ev rfl (ev_load (lr _) rfl ty3 rfl) ?_
        refine sq_ev rfl (ev_fieldAddr fo84_1 (lr _)) ?_
        refine sq_ev rfl (ev_load (lr _) rfl ty3 rfl) ?_
        refine sq_ev rfl (ev_fieldAddr fo84_2 (lr _)) ?_
        refine sq_ev rfl (ev_load (lr _) rfl ty3 rfl) ?_
        refine sq_ev rfl (ev_buildSlice (es := [[_], [_], [_]]) sf34 rfl rfl rfl rfl) ?_
        refine sq_ev rfl (ev_call en115 (lr _) (rrow_pure _ [_, _, _] (by decide) (by simp) (numsL3 ht3.1)) ⟨lr _, less_slx _ _, trivial⟩) ?_
        refine sq_ev rfl (ev_catS (lr _) (lr _) (by have := nums3_len ht3.1; have : wBattle.length = 6 := rfl; have : wScene.length = 5 := rfl; simp; omega)) ?_
        refine mvr (lr _) rfl ?_
        refine sq_ev rfl (ev_catS (lr _) (lr _) (by have := nums3_len ht3.1; have : wBattle.length = 6 := rfl; have : wScene.length = 5 := rfl; simp; omega)) ?_
        refine sq_ev rfl (ev_buildSlice (es := [[_]]) sf138 rfl rfl rfl rfl) ?_
        refine sq_append rfl sf138 Tryz.underlying138 rfl rfl (less_slx _ _) (Nat.succ_pos _) (by simp; omega) (by simp; omega) ?_
        refine sq_ev rfl (ev_as (v := .own _ _ _) (lr _)) ?_
        refine sq_nil (aw_region ?_)
        refine mvr (lr _) rfl ?_
        refine sq_ev rfl (ev_add (lr _) (lr _) (wr (by omega) (by omega))) ?_
        refine asr (lr _) rfl ?_
        refine sq_nil ?_
        exact ⟨⟨k + 1, by omega⟩, by simp only; omega, Sub.fin 2 ⟨lr _, Less.eq (b := .own 1 1 (((rowsT p (k + 1)).map (lineL p)).map fun l => [S l])) (by rw [eS] <;> rfl), lr _, trivial⟩ (congrArg (fun n => [_, AObj.tok n]) (congrArg List.length eS.symm)) (by simp [slotsIn, objsIn, sget, keepS, AObj.inB, AV.inB, AV.inL, AV.inE, inE_map, inE_S, inE_ints, inE_sc, -List.map_append, -List.map_take, -List.map_map]) (by simp [slotsIn, objsIn, sget, keepS, AObj.inB, AV.inB, AV.inL, AV.inE, inE_map, inE_S, inE_ints, inE_sc, -List.map_append, -List.map_take, -List.map_map]) (by simp [he0])⟩
  · skip
    have c1' := c1
    try simp only [qq] at c1'
    obtain rfl : k = p.scenes.length := by omega
    have hll0 : (linesL p).length = p.scenes.length + 1 := by show ((rowsT p p.scenes.length).map (lineL p)).length = _; simp [hrl]
    refine aw_exit (aw_seq (aw_region ?_))
    refine sq_ev rfl (ev_mv (v := .own _ _ _) (lr _)) ?_
    refine sq_ev rfl (ev_call en117 (lr _) (rsealed_pure (linesL p) (by omega) (lineL_len sm)) ⟨less_own _ _ _, lr _, trivial⟩) ?_
    refine asr (lr _) rfl ?_
    refine sq_nil (aw_ret ?_)
    exact retQ_pure (v := .raw _) rfl rfl (Less.eq (by rfl))


end Go.Proofs.YtjghdbdiejaacaaGreatDoor
