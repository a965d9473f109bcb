/-
  A part of the proof: conditions: none beyond each theorem's own.
-/
import Derived.Test.YtjghdbdiejaacaaGreatDoorWalkD
import Derived.Test.YtjghdbdiejaacaaGreatDoorSpecA
import Derived.Test.YtjghdbdiejaacaaGreatDoorLogicD
import Derived.Test.YtjghdbdiejaacaaGreatDoorShelf
set_option linter.all false
namespace Go.Proofs.YtjghdbdiejaacaaGreatDoor
open Go Go.Ab Ni
theorem en137 : Ent Tryz.prog 137 := Ent.of Tryz.func137 (by kernel_rfl) rfl

def minL : List Int → Int
  | [] => 0
  | x :: l => l.foldl min x
theorem minL_take {l : List Int} {k : Nat} (h : k < l.length) (h0 : 0 < k) : minL (l.take (k + 1)) = min (minL (l.take k)) l[k] := by
  rw [List.take_succ_eq_append_getElem h]
  cases l with
  | nil => simp at h
  | cons x l =>
    obtain ⟨k, rfl⟩ : ∃ j, k = j + 1 := ⟨k - 1, by omega⟩
    simp only [List.take_succ_cons, List.cons_append, minL, List.foldl_append, List.foldl_cons, List.foldl_nil]
def freeS (x : Sc) : Sc := { x with most := x.most + 1800 }
def freeP (p : Pl) (n : Nat) : Pl := { p with scenes := p.scenes.set n (freeS (scn p n)) }
theorem freeP_len (p : Pl) (n : Nat) : (freeP p n).scenes.length = p.scenes.length := by simp [freeP]
theorem freeP_gp {p : Pl} (gp : GP p) {n : Nat} (h : n < p.scenes.length) (hm : (scn p n).most ≤ 1000) : GP (freeP p n) := by
  refine ⟨by rw [freeP_len]; exact gp.len, fun x hx => ?_, gp.beg, gp.s0l, gp.s0h, gp.s1l, gp.s1h, gp.dl, gp.dh⟩
  rcases List.mem_or_eq_of_mem_set hx with h1 | h1
  · exact gp.vals x h1
  · have h2 := gp.least h; have h3 := gp.most h
    subst h1; simp only [freeS]; omega
theorem freeP_wp {p : Pl} (wp : WP p) {n : Nat} (h : n < p.scenes.length) : WP (freeP p n) := ⟨by rw [freeP_len]; exact wp.len, wp.s0, wp.s1, wp.d, fun x hx => by
  rcases List.mem_or_eq_of_mem_set hx with h1 | h1
  · exact wp.lm x h1
  · have := wp.lm _ (scn_mem h); subst h1; simp only [freeS]; omega⟩
theorem most_ok {p : Pl} (h : PlOK p = true) {n : Nat} (hn : n < p.scenes.length) : (scn p n).most ≤ 240 := by
  simp only [PlOK, wnd, inn, Bool.and_eq_true, decide_eq_true_eq] at h
  have := h.2.1 n hn
  simp only [scBad, inn, Bool.or_eq_false_iff, Bool.not_eq_false', Bool.and_eq_true, decide_eq_true_eq] at this
  rw [scn_eq hn]; omega
theorem splice1 (v : Int) : ∀ (L : List Sc) (k : Nat) (h : k < L.length) (R : List AV) (l : List AV), l = (L.map sc).flatten ++ R →
    l.take (k * 5 + 2) ++ [I v] ++ l.drop (k * 5 + 2 + 1) = ((L.set k { L[k] with most := v }).map sc).flatten ++ R
  | x :: L, 0, h, R, l, hl => by subst hl; simp
  | x :: L, k + 1, h, R, l, hl => by
    have ih := splice1 v L k (by simpa using h) R _ rfl
    subst hl
    have e2 : (k + 1) * 5 + 2 = k * 5 + 2 + 1 + 1 + 1 + 1 + 1 := by omega
    rw [e2]
    simp only [List.map_cons, List.flatten_cons, List.cons_append, List.nil_append, List.take_succ_cons, List.drop_succ_cons, List.set_cons_succ, List.getElem_cons_succ]
    rw [← ih]
theorem most_at : ∀ (L : List Sc) (k : Nat) (h : k < L.length) (R : List AV), ((L.map sc).flatten ++ R)[k * 5 + 2]? = some (I L[k].most)
  | x :: L, 0, h, R => by simp
  | x :: L, k + 1, h, R => by
    have ih := most_at L k (by simpa using h) R
    have e2 : (k + 1) * 5 + 2 = k * 5 + 2 + 1 + 1 + 1 + 1 + 1 := by omega
    rw [e2]
    simp only [List.map_cons, List.flatten_cons, List.cons_append, List.nil_append, List.getElem?_cons_succ, List.getElem_cons_succ]
    exact ih
def lgV (p : Pl) (n : Nat) (x : List Nat) : Int := (bw (freeP p n) x (2 - (scn p n).part.toNat)).1 - (fw (freeP p n) x (scn p n).part.toNat).2 - hsum p (ofP (freeP p n) x (scn p n).part)
def lgL (p : Pl) (n : Nat) : List Int := (selT (freeP p n) n (choicesC (freeP p n)).length).map (lgV p n)
def lgR (p : Pl) (n : Int) : Int × Int :=
  if PlOK p = true ∧ isSc p n = true then (if 0 < (choicesC p).length then (0, 0) else if (lgL p n.toNat).length = 0 then (0, 5) else (minL (lgL p n.toNat), 0)) else (0, 2)
theorem sel_len (p : Pl) (n i : Nat) : (selT p n i).length ≤ (choicesC p).length := by
  unfold selT; exact ft_len _ _ _
set_option maxHeartbeats 400000 in
/-- slices.Min[[]int,int] -/
theorem nmin_pure (l : List Int) (h0 : 0 < l.length) (hl : l.length ≤ 2000000) : APure Tryz.prog 137 [ints l] (I (minL l)) := by
  refine apure_of (rs := [.tmp 2]) Tryz.func137 rfl rfl (Nat.le_of_ble_eq_true rfl) (by simp [AV.pureL, AV.pureB, AV.pureE, pureE_map]) (rfl) fun e0 he0 => ?_
  refine aw_seq (aw_region ?_)
  refine asr (lr _) rfl ?_
  refine sq_nil (aw_seq (aw_seq ?_))
  have e1 : l[0] = minL (l.take 1) := by cases l with | nil => simp at h0 | cons x l => rfl
  refine aw_region ?_
  refine sq_ev rfl (ev_mv (v := .sl _ _) (lr _)) ?_
  refine sq_ev rfl (ev_len_map sl34 (lr _)) ?_
  refine sq_ev rfl (ev_lss (lr _) (lr _)) ?_
  refine sq_nil ?_
  refine aw_cond (lr _) (fun c1 => ?_) (fun c1 => ?_)
  · skip
    have c1' := c1
    try simp only [qq] at c1'
    exfalso
    omega
  · skip
    have c1' := c1
    try simp only [qq] at c1'
    refine aw_skip (aw_seq (aw_region ?_))
    refine sq_ev rfl (ev_mv (v := .sl _ _) (lr _)) ?_
    refine sq_ev rfl (ev_index_map (k := 0) sl34 (lr _) (lr _) rfl h0) ?_
    refine sq_ev rfl (ev_load_i (lr _) ty3 rfl) ?_
    refine asr (lr _) rfl ?_
    refine sq_nil (aw_seq (aw_seq (aw_region ?_)))
    refine asr (lr _) rfl ?_
    refine sq_nil (aw_block ?_)
    refine aw_loopk (ι := { k : Nat // k ≤ l.length ∧ 0 < k }) [0] (fun i => [(4, I i.1), (3, I (minL (l.take i.1)))]) (fun H i => H) (fun i => l.length - i.1) (⟨1, by omega, by omega⟩) ⟨lr _, (by exact less_int e1), lr _, trivial⟩ rfl ?_
    rintro ⟨k, hk, hk0⟩
    dsimp only [keepS, St.put, sget, slotsOf, List.map_cons, List.map_nil, List.cons_append, List.nil_append, List.length_cons, List.length_nil, Nat.reduceBEq, Nat.reduceAdd, cond_true, cond_false]
    refine aw_seq (aw_seq (aw_region ?_))
    refine mvr (lr _) rfl ?_
    refine sq_ev rfl (ev_mv (v := .sl _ _) (lr _)) ?_
    refine sq_ev rfl (ev_len_map sl34 (lr _)) ?_
    refine sq_ev rfl (ev_lss (lr _) (lr _)) ?_
    refine sq_nil ?_
    refine aw_cond (lr _) (fun c2 => ?_) (fun c2 => ?_)
    · skip
      have c2' := c2
      try simp only [qq] at c2'
      have hk' : k < l.length := by omega
      refine aw_skip (aw_seq (aw_block (aw_region ?_)))
      refine mvr (lr _) rfl ?_
      refine sq_ev rfl (ev_mv (v := .sl _ _) (lr _)) ?_
      refine mvr (lr _) rfl ?_
      refine sq_ev rfl (ev_index_map sl34 (lr _) (lr _) rfl (by omega)) ?_
      refine sq_ev rfl (ev_load_i (lr _) ty3 rfl) ?_
      refine sq_ev rfl (ev_min2 (lr _) (lr _)) ?_
      refine asr (lr _) rfl ?_
      refine sq_nil (aw_region ?_)
      refine mvr (lr _) rfl ?_
      refine sq_ev rfl (ev_add (lr _) (lr _) (wr (by omega) (by omega))) ?_
      refine asr (lr _) rfl ?_
      refine sq_nil ?_
      exact ⟨⟨k + 1, by omega, by omega⟩, by simp only; omega, Sub.slots ⟨lr _, (by exact less_int (minL_take hk' hk0).symm), lr _, trivial⟩⟩
    · skip
      have c2' := c2
      try simp only [qq] at c2'
      obtain rfl : k = l.length := by omega
      refine aw_exit (aw_seq (aw_region ?_))
      refine mvr (lr _) rfl ?_
      refine asr (lr _) rfl ?_
      refine sq_nil (aw_ret ?_)
      exact retQ_pure (v := .raw _) rfl rfl (Less.eq (by simp))

set_option maxHeartbeats 4000000 in
/-- kelir/night.Longer -/
theorem nLonger_pure (p : Pl) (n' : Int) (hl0 : p.scenes.length ≤ 1000000) : APure Tryz.prog 70 [plan p, I n'] (.tup [I (lgR p n').1, I (lgR p n').2]) := by
 refine apure_of (rs := [.tmp 4, .tmp 5]) Tryz.func70 rfl rfl (Nat.le_of_ble_eq_true rfl) (by simp [AV.pureL, AV.pureB, AV.pureE, pureE_map]) (rfl) fun e0 he0 => ?_
 refine aw_seq (aw_region ?_)
 refine sq_box rfl (lr _) rfl ?_
 refine asr (lr _) rfl ?_
 refine asr (lr _) rfl ?_
 refine sq_nil (aw_seq (aw_seq (aw_region ?_)))
 refine sq_ev rfl (ev_load_agg (lr _) rfl ty27 rfl) ?_
 refine sq_ev rfl (ev_call en85 (lr _) (isplan_pure p hl0) ⟨lr _, trivial⟩) ?_
 refine sq_ev rfl (ev_not (lr _)) ?_
 refine mvr (lr _) rfl ?_
 refine sq_split 15 (lr _) (fun g1 => ?_) (fun g1 => ?_)
 ·
  have g1' := g1
  try simp only [qq] at g1'
  refine sq_no rfl rfl (less_b g1) rfl rfl ?_
  refine sq_no rfl rfl (less_b g1) rfl rfl ?_
  refine sq_no rfl rfl (less_b g1) rfl rfl ?_
  refine sq_no rfl rfl (less_b g1) rfl rfl ?_
  refine sq_ev rfl (ev_pickT (v := .raw _) (less_b g1) (lr _)) ?_
  refine sq_nil ?_
  refine aw_true (lr _) ?_
  refine aw_seq (aw_region ?_)
  refine asr (lr _) rfl ?_
  refine asr (lr _) rfl ?_
  refine sq_nil (aw_ret ?_)
  exact retQ_pure (v := .tup [.raw _, .raw _]) rfl rfl (Less.eq (by simp [lgR, g1']))
 ·
  have g1' := g1
  try simp only [qq] at g1'
  refine sq_yes rfl rfl (less_b g1) rfl (ev_load_agg (lr _) rfl ty27 rfl) ?_
  refine sq_yes rfl rfl (less_b g1) rfl (ev_mv (v := .raw _) (lr _)) ?_
  refine sq_yes rfl rfl (less_b g1) rfl (ev_call en133 (lr _) (nisscene_pure p n' hl0) ⟨lr _, lr _, trivial⟩) ?_
  refine sq_yes rfl rfl (less_b g1) rfl (ev_not (lr _)) ?_
  refine sq_ev rfl (ev_pickF (v := .raw _) (less_b g1) (lr _)) ?_
  refine sq_nil ?_
  refine aw_cond (lr _) (fun c2 => ?_) (fun c2 => ?_)
  ·
   have c2' := c2
   try simp only [qq] at c2'
   refine aw_seq (aw_region ?_)
   refine asr (lr _) rfl ?_
   refine asr (lr _) rfl ?_
   refine sq_nil (aw_ret ?_)
   exact retQ_pure (v := .tup [.raw _, .raw _]) rfl rfl (Less.eq (by simp [lgR, c2']))
  ·
   have c2' := c2
   try simp only [qq] at c2'
   have hn1 : 0 ≤ n' ∧ n' < p.scenes.length := by simp only [isSc, inn, Bool.and_eq_true, decide_eq_true_eq] at c2'; omega
   obtain ⟨n, rfl⟩ : ∃ n : Nat, n' = (n : Int) := ⟨n'.toNat, by omega⟩
   obtain ⟨gp, wp⟩ := gp_of_ok g1'
   have hn : n < p.scenes.length := by omega
   obtain ⟨k, hk, hk3⟩ := partOf_ok g1' hn
   have hcl := choicesC_len gp
   have he := scn_eq hn
   have hk1 : (p.scenes[n]).part = (k : Int) := he ▸ hk
   have hmo := most_ok g1' hn
   have hle0 := (gp.most hn).1
   have gpF := freeP_gp gp hn (by omega)
   have wpF := freeP_wp wp hn
   have hclF := choicesC_len gpF
   have hkt : (scn p n).part.toNat = k := by omega
   have hmo1 : (p.scenes[n]).most ≤ 240 := he ▸ hmo
   have hle1 : 0 ≤ (p.scenes[n]).most := he ▸ hle0
   refine aw_skip (aw_seq (aw_seq (aw_region ?_)))
   refine sq_ev rfl (ev_load_agg (lr _) rfl ty27 rfl) ?_
   refine sq_ev rfl (ev_call en86 (lr _) (nplayablew_pure gp wp) ⟨lr _, trivial⟩) ?_
   refine sq_ev rfl (ev_len_map sl107 (lr _)) ?_
   refine sq_ev rfl (ev_gtr (lr _) (lr _)) ?_
   refine sq_nil ?_
   refine aw_cond (lr _) (fun c3 => ?_) (fun c3 => ?_)
   ·
    have c3' := c3
    try simp only [qq] at c3'
    refine aw_seq (aw_region ?_)
    refine asr (lr _) rfl ?_
    refine asr (lr _) rfl ?_
    refine sq_nil (aw_ret ?_)
    exact retQ_pure (v := .tup [.raw _, .raw _]) rfl rfl (Less.eq (by rw [lgR, if_pos ⟨g1', by simpa using c2'⟩, if_pos (by omega)] <;> rfl))
   ·
    have c3' := c3
    try simp only [qq] at c3'
    refine aw_skip (aw_seq (aw_region ?_))
    refine sq_ev rfl (ev_fieldAddr fo27_3 (lr _)) ?_
    refine sq_ev rfl (ev_load (lr _) rfl ty25 rfl) ?_
    refine mvr (lr _) rfl ?_
    refine sq_ev rfl (ev_index_map sl25 (lr _) (lr _) rfl (by omega)) ?_
    refine sq_ev rfl (ev_fieldAddr_i fo84_0 (lr _)) ?_
    refine sq_ev rfl (ev_less (ev_load_i (lr _) ty3 rfl) (less_int hk1)) ?_
    refine asr (lr _) rfl ?_
    refine sq_nil (aw_seq (aw_region ?_))
    refine sq_ev rfl (ev_load_agg (lr _) rfl ty27 rfl) ?_
    refine sq_alloc rfl z27 ?_
    refine sq_store rfl (lr _) (lr _) rfl rfl ty27 rfl rfl ?_
    refine sq_nil (aw_seq (aw_region ?_))
    refine sq_ev rfl (ev_fieldAddr fo27_3 (lr _)) ?_
    refine sq_ev rfl (ev_load (lr _) rfl ty25 rfl) ?_
    refine sq_call (first := []) (cap := []) (args := [.sl 5 (p.scenes.map sc)]) rfl en134 (lr _) ⟨lr _, trivial⟩ (nclonesc_call (l := p.scenes) (by omega) hl0) ?_ (by rintro v H' ⟨_, _, h, _⟩; cases h)
    rintro _ _ ⟨cap, hcap, h, rfl⟩; cases h
    refine sq_ev rfl (ev_fieldAddr fo27_3 (lr _)) ?_
    refine sq_store rfl (lr _) (lr _) rfl rfl ty25 rfl rfl ?_
    refine sq_nil (aw_seq ?_)
    have hfl := flat_len p.scenes
    have hat := most_at p.scenes n hn (List.replicate ((cap - (p.scenes.map sc).length) * 5) .any)
    have hsp := splice1 (p.scenes[n].most + 1800) p.scenes n hn (List.replicate ((cap - (p.scenes.map sc).length) * 5) .any) _ rfl
    have hble : Nat.ble (n * 5 + 2 + 1) ((p.scenes.map sc).flatten ++ List.replicate ((cap - (p.scenes.map sc).length) * 5) AV.any).length = true := Nat.ble_eq_true_of_le (by rw [List.length_append, hfl, List.length_replicate]; omega)
    refine aw_region ?_
    refine sq_ev rfl (ev_fieldAddr fo27_3 (lr _)) ?_
    refine sq_ev rfl (ev_load (lr _) rfl ty25 rfl) ?_
    refine mvr (lr _) rfl ?_
    refine sq_ev rfl (ev_less (v' := .ptr 2 (n * 5)) (ev_index_msl sl25 (lr _) (lr _) rfl (by simp; omega)) (Less.eq (congrArg (AV.ptr 2) (Nat.zero_add (n * 5))))) ?_
    refine sq_ev rfl (ev_fieldAddr fo84_2 (lr _)) ?_
    refine sq_ev rfl (ev_load (lr _) rfl ty3 hat) ?_
    refine sq_ev rfl (ev_add (lr _) (lr _) (wr (by omega) (by omega))) ?_
    refine sq_ev rfl (ev_less (v' := .ptr 2 (n * 5)) (ev_index_msl sl25 (lr _) (lr _) rfl (by simp; omega)) (Less.eq (congrArg (AV.ptr 2) (Nat.zero_add (n * 5))))) ?_
    refine sq_ev rfl (ev_fieldAddr fo84_2 (lr _)) ?_
    refine sq_store rfl (lr _) (lr _) rfl rfl ty3 rfl hble ?_
    refine sq_nil (aw_seq ?_)
    have hsc : (freeP p n).scenes = p.scenes.set n { p.scenes[n] with most := p.scenes[n].most + 1800 } := by rw [freeP, he]; rfl
    refine aw_sub (sub_freeze (j := 2) (n := (p.scenes.map sc).length) (cap := cap) (sz := 5) (es := (freeP p n).scenes.map sc) (rest := List.replicate ((cap - (p.scenes.map sc).length) * 5) .any) (sl' := [(1, I n), (2, .ptr 0 0), (6, I k), (7, .ptr 1 0)]) (by rw [hsc]; exact congrArg (fun l => some (AObj.cells l)) hsp) (by simp [freeP]) (fun q hq => by obtain ⟨x, _, rfl⟩ := List.mem_map.1 hq; rfl) (fun q hq => by rcases List.mem_cons.1 hq with rfl | hq; exact Fz.same (I n); rcases List.mem_cons.1 hq with rfl | hq; exact Fz.same (AV.ptr 0 0); rcases List.mem_cons.1 hq with rfl | hq; exact Fz.same (I k); rw [List.mem_singleton] at hq; subst hq; exact Fz.same (AV.ptr 1 0)) (FzH.same _ (by decide) (FzH.cells (by decide) (FzL.cons (Fz.same _) (FzL.cons (Fz.same _) (FzL.cons (Fz.same _) (FzL.cons (Fz.same _) (FzL.cons (Fz.same _) (FzL.cons (Fz.same _) (FzL.cons (Fz.same _) (FzL.cons Fz.frozen FzL.nil)))))))) (FzH.dead _ rfl (FzH.nil _))))) ?_
    refine aw_region ?_
    refine asr (lr _) rfl ?_
    refine sq_nil (aw_seq (aw_seq (aw_region ?_)))
    refine sq_ev rfl (ev_load_agg (lr _) rfl ty27 rfl) ?_
    refine sq_ev rfl (ev_call en86 (lr _) (nplayablew_pure gpF wpF) ⟨lr _, trivial⟩) ?_
    refine sq_ev rfl (ev_len_map sl107 (lr _)) ?_
    refine mvr (lr _) rfl ?_
    refine sq_nil (aw_block ?_)
    refine aw_sub (sub_token 8 1 (lr _)) ?_
    refine aw_loopk (ι := { k : Nat // k ≤ (choicesC (freeP p n)).length }) [1, 2, 6, 46, 47] (fun i => [(48, I i.1), (8, .own 3 1 (((selT (freeP p n) n i.1).map (lgV p n)).map fun x => [I x]))]) (fun H i => H.set 3 (.tok (((selT (freeP p n) n i.1).map (lgV p n)).map fun x => [I x]).length)) (fun i => (choicesC (freeP p n)).length - i.1) (⟨0, Nat.zero_le _⟩) ⟨lr _, lr _, lr _, lr _, lr _, lr _, lr _, trivial⟩ rfl ?_
    rintro ⟨j, hj⟩
    dsimp only [keepS, St.put, sget, slotsOf, List.map_cons, List.map_nil, List.cons_append, List.nil_append, List.length_cons, List.length_nil, Nat.reduceBEq, Nat.reduceAdd, cond_true, cond_false]
    have hse := sel_len (freeP p n) n j
    refine aw_seq (aw_region ?_)
    refine sq_ev rfl (ev_lss (lr _) (lr _)) ?_
    refine sq_nil (aw_seq ?_)
    refine aw_cond (lr _) (fun c4 => ?_) (fun c4 => ?_)
    ·
     have c4' := c4
     try simp only [qq] at c4'
     have hj' : j < (choicesC (freeP p n)).length := by omega
     refine aw_skip (aw_seq (aw_block (aw_seq (aw_region ?_))))
     refine sq_ev rfl (ev_index_map sl107 (lr _) (lr _) rfl (by omega)) ?_
     refine sq_ev rfl (ev_load_agg_i (lr _) ty110 (Nat.le_of_ble_eq_true rfl)) ?_
     refine sq_alloc rfl z110 ?_
     refine sq_store rfl (lr _) (lr _) rfl rfl ty110 rfl rfl ?_
     refine sq_nil (aw_seq ?_)
     generalize hx : (choicesC (freeP p n))[j] = x
     have hmm : x ∈ choicesC (freeP p n) := hx ▸ List.getElem_mem hj'
     have cv := choicesC_mem gpF _ hmm
     have hff := can_fwd gpF wpF hmm
     have b1 := fw_bd gpF cv k
     have b2 := bw_bd gpF cv (2 - k)
     have cvp : CV p x := ⟨cv.len, fun y hy => by have := cv.rng y hy; rwa [freeP_len] at this⟩
     have cvO : CV p (ofP (freeP p n) x (k : Int)) := ⟨(ofP_cv cv _).len, fun y hy => by have := (ofP_cv cv _).rng y hy; rwa [freeP_len] at this⟩
     have b3 := hsum_bd gp cvO
     refine aw_region ?_
     refine sq_ev rfl (ev_fieldAddr fo110_1 (lr _)) ?_
     refine sq_ev rfl (ev_load (lr _) rfl ty34 rfl) ?_
     refine mvr (lr _) rfl ?_
     refine sq_ev rfl (ev_call en106 (lr _) (ncontains_nats x n (by have := cv.len; omega)) ⟨lr _, lr _, trivial⟩) ?_
     refine sq_nil ?_
     refine aw_cond (lr _) (fun c5 => ?_) (fun c5 => ?_)
     ·
      have c5' := c5
      try simp only [qq] at c5'
      have hm : n ∈ (choicesC (freeP p n))[j] := by rw [hx]; simpa using c5'
      have eS : ((selT (freeP p n) n (j + 1)).map (lgV p n)).map (fun x => [I x]) = ((selT (freeP p n) n j).map (lgV p n)).map (fun x => [I x]) ++ [[I ((bw (freeP p n) x (2 - k)).1 - (fw (freeP p n) x k).2 - hsum p (ofP (freeP p n) x (k : Int)))]] := by rw [sel_yes hj' hm, hx, List.map_append, List.map_append]; simp only [List.map_cons, List.map_nil, lgV, hk, Int.toNat_natCast]
      refine aw_seq ?_
      refine aw_draw 10 mo (by kernel_rfl) ?_
      refine dr_ev rfl (ev_load_agg (lr _) rfl ty27 rfl) ?_
      refine dr_ev rfl (ev_fieldAddr fo110_1 (lr _)) ?_
      refine dr_ev rfl (ev_load (lr _) rfl ty34 rfl) ?_
      refine dr_ev rfl (ev_build bi110 rfl) ?_
      refine dr_ev rfl (ev_load_agg (lr _) rfl ty110 rfl) ?_
      refine dr_ev rfl (ev_mv (v := .raw _) (lr _)) ?_
      refine dr_ev rfl (ev_call en136 (lr _) (nof_pure (freeP p n) x k gpF cv) ⟨lr _, lr _, trivial⟩) ?_
      refine dr_ev rfl (ev_call en135 (lr _) (nlasts_pure p x _ gp cvO) ⟨lr _, lr _, trivial⟩) ?_
      refine dr_ev rfl (ev_field fo23_1 ty3 (lr _) rfl) ?_
      refine dr_ev rfl (ev_as (v := .raw _) (lr _)) ?_
      refine dr_end (sq_nil ?_)
      refine aw_draw 15 mo (by kernel_rfl) ?_
      refine dr_ev rfl (ev_mv (v := .own _ _ _) (lr _)) ?_
      refine dr_ev rfl (ev_load_agg (lr _) rfl ty110 rfl) ?_
      refine dr_ev rfl (ev_call en100 (lr _) (nbackward_pure (freeP p n) x gpF cv) ⟨lr _, trivial⟩) ?_
      refine dr_ev rfl (ev_mv (v := .raw _) (lr _)) ?_
      refine dr_ev rfl (ev_less (ev_indexv_agg (k := k) ar120 ty23 (lr _) (lr _) rfl (by omega)) (Less.eq (b := .agg [I (bw (freeP p n) x (2 - k)).1, I (bw (freeP p n) x (2 - k)).2]) (by rcases k with _ | _ | _ | k <;> first | rfl | omega))) ?_
      refine dr_ev rfl (ev_field fo23_0 ty3 (lr _) rfl) ?_
      refine dr_ev rfl (ev_load_agg (lr _) rfl ty110 rfl) ?_
      refine dr_ev rfl (ev_call en99 (lr _) (nforward_pure (freeP p n) x gpF cv hff) ⟨lr _, trivial⟩) ?_
      refine dr_ev rfl (ev_mv (v := .raw _) (lr _)) ?_
      refine dr_ev rfl (ev_less (ev_indexv_agg (k := k) ar118 ty23 (lr _) (lr _) rfl (by omega)) (Less.eq (b := .agg [I (fw (freeP p n) x k).1, I (fw (freeP p n) x k).2]) (by rcases k with _ | _ | _ | k <;> first | rfl | omega))) ?_
      refine dr_ev rfl (ev_field fo23_1 ty3 (lr _) rfl) ?_
      refine dr_ev rfl (ev_sub (lr _) (lr _) (wr (by omega) (by omega))) ?_
      refine dr_ev rfl (ev_mv (v := .raw _) (lr _)) ?_
      refine dr_ev rfl (ev_sub (lr _) (lr _) (wr (by omega) (by omega))) ?_
      refine dr_ev rfl (ev_buildSlice (es := [[_]]) sf34 rfl rfl rfl rfl) ?_
      refine dr_end ?_
      refine sq_append rfl sf34 Tryz.underlying34 rfl rfl (less_slx _ _) (Nat.succ_pos _) (by simp; omega) (by simp; omega) ?_
      refine sq_ev rfl (ev_as (v := .own _ _ _) (lr _)) ?_
      refine sq_nil (aw_region ?_)
      refine sq_ev rfl (ev_add (lr _) (lr _) (wr (by omega) (by omega))) ?_
      refine mvr (lr _) rfl ?_
      refine sq_nil ?_
      exact ⟨⟨j + 1, by omega⟩, by simp only; omega, Sub.fin 4 ⟨lr _, Less.eq (b := .own 3 1 (((selT (freeP p n) n (j + 1)).map (lgV p n)).map (fun x => [I x]))) (by rw [eS] <;> rfl), lr _, lr _, lr _, lr _, lr _, trivial⟩ (congrArg (fun n => [_, _, _, AObj.tok n]) (congrArg List.length eS.symm)) (by simp [slotsIn, objsIn, sget, keepS, AObj.inB, AV.inB, AV.inL, AV.inE, inE_map, inE_ints, inE_sc, -List.map_append, -List.map_take, -List.map_map]) (by simp [slotsIn, objsIn, sget, keepS, AObj.inB, AV.inB, AV.inL, AV.inE, inE_map, inE_ints, inE_sc, -List.map_append, -List.map_take, -List.map_map]) (by simp [he0])⟩
     ·
      have c5' := c5
      try simp only [qq] at c5'
      have hm : ¬ n ∈ (choicesC (freeP p n))[j] := by rw [hx]; simpa using c5'
      have eS : ((selT (freeP p n) n (j + 1)).map (lgV p n)).map (fun x => [I x]) = ((selT (freeP p n) n j).map (lgV p n)).map (fun x => [I x]) := by rw [sel_no hj' hm]
      refine aw_skip (aw_region ?_)
      refine sq_ev rfl (ev_add (lr _) (lr _) (wr (by omega) (by omega))) ?_
      refine mvr (lr _) rfl ?_
      refine sq_nil ?_
      exact ⟨⟨j + 1, by omega⟩, by simp only; omega, Sub.fin 4 ⟨lr _, Less.eq (b := .own 3 1 (((selT (freeP p n) n (j + 1)).map (lgV p n)).map (fun x => [I x]))) (by rw [eS] <;> rfl), lr _, lr _, lr _, lr _, lr _, trivial⟩ (congrArg (fun n => [_, _, _, AObj.tok n]) (congrArg List.length eS.symm)) (by simp [slotsIn, objsIn, sget, keepS, AObj.inB, AV.inB, AV.inL, AV.inE, inE_map, inE_ints, inE_sc, -List.map_append, -List.map_take, -List.map_map]) (by simp [slotsIn, objsIn, sget, keepS, AObj.inB, AV.inB, AV.inL, AV.inE, inE_map, inE_ints, inE_sc, -List.map_append, -List.map_take, -List.map_map]) (by simp [he0])⟩
    ·
     have c4' := c4
     try simp only [qq] at c4'
     obtain rfl : j = (choicesC (freeP p n)).length := by omega
     have hlg : (lgL p n).length ≤ 1114112 := by unfold lgL; rw [List.length_map]; exact Nat.le_trans (sel_len _ _ _) hclF
     have hll : (selT (freeP p n) n (choicesC (freeP p n)).length).length = (lgL p n).length := by simp [lgL]
     refine aw_exit (aw_seq (aw_seq (aw_region ?_)))
     refine sq_ev rfl (ev_mv (v := .own _ _ _) (lr _)) ?_
     refine sq_ev rfl (ev_len_map sl34 (less_own _ _ _)) ?_
     refine sq_ev rfl (ev_eql (lr _) (lr _)) ?_
     refine sq_nil ?_
     refine aw_cond (lr _) (fun c6 => ?_) (fun c6 => ?_)
     ·
      have c6' := c6
      try simp only [qq] at c6'
      refine aw_seq (aw_region ?_)
      refine asr (lr _) rfl ?_
      refine asr (lr _) rfl ?_
      refine sq_nil (aw_ret ?_)
      exact retQ_pure (v := .tup [.raw _, .raw _]) rfl rfl (Less.eq (by rw [lgR, if_pos ⟨g1', by simpa using c2'⟩, if_neg (by omega), if_pos (by show (lgL p n).length = 0; omega)] <;> rfl))
     ·
      have c6' := c6
      try simp only [qq] at c6'
      refine aw_skip (aw_seq (aw_region ?_))
      refine sq_ev rfl (ev_mv (v := .own _ _ _) (lr _)) ?_
      refine sq_ev rfl (ev_call en137 (lr _) (nmin_pure (lgL p n) (by omega) (by omega)) ⟨less_own _ _ _, trivial⟩) ?_
      refine asr (lr _) rfl ?_
      refine asr (lr _) rfl ?_
      refine sq_nil (aw_ret ?_)
      exact retQ_pure (v := .tup [.raw _, .raw _]) rfl rfl (Less.eq (by rw [lgR, if_pos ⟨g1', by simpa using c2'⟩, if_neg (by omega), if_neg (by show ¬ (lgL p n).length = 0; omega)] <;> rfl))


end Go.Proofs.YtjghdbdiejaacaaGreatDoor

namespace Go.Proofs.YtjghdbdiejaacaaGreatDoor
open Go Go.Ab Ni
theorem bi167 : bldInfo Tryz.prog 167 = some ([.raw (.string ByteArray.empty)], true, [(0, 1)], 0) := by kernel_rfl
theorem en150 : Ent Tryz.prog 150 := Ent.of Tryz.func150 (by kernel_rfl) rfl
theorem en151 : Ent Tryz.prog 151 := Ent.of Tryz.func151 (by kernel_rfl) rfl
theorem en152 : Ent Tryz.prog 152 := Ent.of Tryz.func152 (by kernel_rfl) rfl

theorem wr32 {n : Int} (h1 : -2147483648 ≤ n) (h2 : n ≤ 2147483647) : IntKind.i32.wrap n = n := IntWalk.i32_in _ ⟨h1, h2⟩
theorem wr8 {n : Int} (h1 : 0 ≤ n) (h2 : n ≤ 255) : IntKind.u8.wrap n = n := IntWalk.u8_in _ ⟨h1, h2⟩
/-- strconv.Itoa -/
theorem nitoa_pure (n : Int) (h0 : -9223372036854775808 ≤ n) (h1 : n ≤ 9223372036854775807) : APure Tryz.prog 150 [I n] (S (Lib.itoa n)) :=
  apure_of_calls (vs := [.int .i64 n]) fun w hw => (Tryz.strconv_Itoa n h0 h1 w hw.2).mono fun _ _ ⟨h1, k, os, h2⟩ => ⟨h1, by rw [h2]; exact ⟨rfl, rfl⟩, os, by rw [h2]; rfl⟩
/-- strings.Split, at one byte -/
theorem nsplit_pure (s : List UInt8) (c : UInt8) (hs : s.length ≤ 1000000) : APure Tryz.prog 151 [S s, S [c]] (.sl 1 ((cut c s).map fun p => [S p])) := by
  have hc := splitB_cut c s
  have hlen : (Lib.splitB ⟨#[c]⟩ 0 (Lib.countB ⟨s.toArray⟩ ⟨#[c]⟩) ⟨s.toArray⟩).length = Lib.countB ⟨s.toArray⟩ ⟨#[c]⟩ + 1 := Lib.splitB_all ⟨#[c]⟩ (Nat.le_refl 1) 0 _ _ rfl
  have h := apure_of_row (P := Tryz.prog) (f := 151) (vs := [.string ⟨s.toArray⟩, .string ⟨#[c]⟩]) (us := (Lib.splitB ⟨#[c]⟩ 0 (Lib.countB ⟨s.toArray⟩ ⟨#[c]⟩) ⟨s.toArray⟩).map Value.string) (et := 9)
    (fun u hu => by obtain ⟨x, _, rfl⟩ := List.mem_map.1 hu; rfl) (fun w hw => by
      obtain ⟨m, hm⟩ := hw.1
      refine (Tryz.strings_Split ⟨s.toArray⟩ ⟨#[c]⟩ m w (by rw [bs_size]; omega) hm (Nat.le_refl 1)).mono ?_
      rintro x w' ⟨h1, h2⟩
      refine ⟨?_, by rw [h2]; exact ⟨rfl, rfl⟩, by rw [h2]; rfl⟩
      rw [h1, List.length_map, hlen])
  have e : ((Lib.splitB ⟨#[c]⟩ 0 (Lib.countB ⟨s.toArray⟩ ⟨#[c]⟩) ⟨s.toArray⟩).map Value.string).map (fun u => [AV.raw u]) = (cut c s).map fun p => [S p] := by
    rw [← hc, List.map_map, List.map_map]
    refine List.map_congr_left fun x _ => ?_
    simp [Function.comp]
  rw [e] at h; exact h
/-- whether something is sure -/
def SureR (b : Bool) (why : List UInt8) (x : ARes) : Prop := (b = true ∧ x = .ret (.tup [])) ∨ (b = false ∧ x = .pan (.ifc 167 (.agg [S why])))
def numR (w : List UInt8) (x : ARes) : Prop := match numOf w with | some n => x = .ret (I n) | none => x = .pan (.ifc 167 (.agg [S w]))
theorem numR_none {w : List UInt8} (h : numOf w = none) : numR w (.pan (.ifc 167 (.agg [S w]))) := by unfold numR; rw [h]
theorem numR_some {w : List UInt8} {n : Int} (h : numOf w = some n) : numR w (.ret (I n)) := by unfold numR; rw [h]
set_option maxHeartbeats 400000 in
/-- kelir/night.sure -/
theorem nsure_pan (b : Bool) (why : List UInt8) : APan Tryz.prog 152 [B b, S why] (SureR b why) := by
  refine APan.of_acall (by simp [AV.pureL, AV.pureB, AV.pureE, pureE_map]) (acall_of (rs := []) Tryz.func152 rfl rfl (Nat.le_of_ble_eq_true rfl) fun e0 he0 => ?_)
  refine aw_seq (aw_region ?_)
  refine mvr (lr _) rfl ?_
  refine sq_ev rfl (ev_not (lr _)) ?_
  refine sq_nil ?_
  refine aw_cond (lr _) (fun c1 => ?_) (fun c1 => ?_)
  · skip
    have c1' := c1
    try simp only [qq] at c1'
    refine aw_region ?_
    refine mvr (lr _) rfl ?_
    refine sq_ev rfl (ev_build bi167 rfl) ?_
    refine sq_ev rfl (ev_makeIface ni167 (lr _)) ?_
    refine sq_panic (lr _) ?_
    exact ⟨rfl, .pan (.ifc 167 (.agg [S why])), .inr ⟨by simpa using c1', rfl⟩, rfl, lr _⟩
  · skip
    have c1' := c1
    try simp only [qq] at c1'
    refine aw_skip ?_
    exact ⟨rfl, .tup [], rfl, .ret (.tup []), .inl ⟨by simpa using c1', rfl⟩, rfl, lr _⟩

set_option maxHeartbeats 1000000 in
/-- kelir/night.number -/
theorem nnumber_pan (w : List UInt8) (hw : w.length ≤ 1000000) : APan Tryz.prog 153 [S w] (numR w) := by
 refine APan.of_acall (by simp [AV.pureL, AV.pureB, AV.pureE, pureE_map]) (acall_of (rs := [.tmp 2]) Tryz.func153 rfl rfl (Nat.le_of_ble_eq_true rfl) fun e0 he0 => ?_)
 refine aw_seq (aw_region ?_)
 refine asr (lr _) rfl ?_
 refine sq_nil (aw_seq (aw_region ?_))
 refine asr (lr _) rfl ?_
 refine sq_nil (aw_seq (aw_seq (aw_region ?_)))
 refine mvr (lr _) rfl ?_
 refine sq_rangeS rfl Tryz.underlying9 (lr _) ?_
 refine sq_nil (aw_block ?_)
 refine aw_loopk (ι := { k : Nat // k ≤ w.length ∧ (∀ i, (h : i < w.length) → i < k → isD w[i] = true) ∧ (0 < k → w.length ≤ 3) }) [0, 7] (fun i => [(3, I (valN (w.take i.1)))]) (fun H i => H.set 0 (.raw (.stringIter ⟨w.toArray⟩ i.1))) (fun i => w.length - i.1) (⟨0, Nat.zero_le _, by omega, by omega⟩) ⟨lr _, lr _, lr _, trivial⟩ rfl ?_
 rintro ⟨k, hk, hds, h3⟩
 dsimp only [keepS, St.put, sget, slotsOf, List.map_cons, List.map_nil, List.cons_append, List.nil_append, List.length_cons, List.length_nil, Nat.reduceBEq, Nat.reduceAdd, cond_true, cond_false]
 refine aw_seq (aw_region ?_)
 refine sq_nextS rfl (lr _) rfl (fun n1 => ?_) (fun n1 => ?_)
 ·
  have hk' : k < w.length := by rw [bs_size] at n1; exact n1
  have hdl := decode_le ⟨w.toArray⟩ k
  refine sq_ev rfl (ev_extract (lr _) rfl) ?_
  refine sq_nil (aw_seq ?_)
  refine aw_true (lr _) ?_
  refine aw_skip (aw_block (aw_seq (aw_region ?_)))
  refine sq_ev rfl (ev_extract (lr _) rfl) ?_
  refine asr (lr _) rfl ?_
  refine sq_nil (aw_seq (aw_region ?_))
  refine mvr (lr _) rfl ?_
  refine sq_ev rfl (ev_geq (lr _) (lr _)) ?_
  refine mvr (lr _) rfl ?_
  refine sq_split 13 (lr _) (fun g2 => ?_) (fun g2 => ?_)
  ·
   have g2' := g2
   try simp only [qq] at g2'
   refine sq_yes rfl rfl (less_b g2) rfl (ev_mv (v := .raw _) (lr _)) ?_
   refine sq_yes rfl rfl (less_b g2) rfl (ev_leq (lr _) (lr _)) ?_
   refine sq_ev rfl (ev_pickT (v := .raw _) (less_b g2) (lr _)) ?_
   refine mvr (lr _) rfl ?_
   refine sq_split 17 (lr _) (fun g3 => ?_) (fun g3 => ?_)
   ·
    have g3' := g3
    try simp only [qq] at g3'
    refine sq_yes rfl rfl (less_b g3) rfl (ev_mv (v := .raw _) (lr _)) ?_
    refine sq_yes rfl rfl (less_b g3) rfl (ev_lenS Tryz.underlying9 (lr _)) ?_
    refine sq_yes rfl rfl (less_b g3) rfl (ev_leq (lr _) (lr _)) ?_
    refine sq_ev rfl (ev_pickT (v := .raw _) (less_b g3) (lr _)) ?_
    refine mvr (lr _) rfl ?_
    refine sq_call (args := [B _, S w]) rfl en152 (lr _) ⟨lr _, lr _, trivial⟩ (nsure_pan _ _ _) ?_ ?_
    rotate_left
    ·
     (rintro v _ ⟨rfl, (⟨_, h⟩ | ⟨hb, h⟩)⟩ <;> cases h; exact ⟨rfl, .pan (.ifc 167 (.agg [S w])), numR_none (numOf_len (by simp at hb; omega)), rfl, lr _⟩)
    rintro v _ ⟨rfl, (⟨hb, h⟩ | ⟨_, h⟩)⟩ <;> cases h
    refine sq_nil ?_
    have hlen : w.length ≤ 3 := by simp at hb; omega
    have hdec := dec_yes hk' (by omega) (by omega)
    have hv := valN_999 hk (by omega) hds
    have hb8 : (w[k]).toNat ≤ 57 := ((isD_iff _).1 hdec.2).2
    have eV : 10 * valN (w.take k) + (((Utf8.decode ⟨w.toArray⟩ k).1 : Int) - 48) = valN (w.take (k + 1)) := by rw [valN_take hk', hdec.1]
    refine aw_region ?_
    refine mvr (lr _) rfl ?_
    refine sq_ev rfl (ev_mul (lr _) (lr _) (wr (by omega) (by omega))) ?_
    refine mvr (lr _) rfl ?_
    refine sq_ev rfl (ev_sub (lr _) (lr _) (wr32 (by omega) (by omega))) ?_
    refine sq_ev rfl (ev_conv_int Tryz.underlying21 Tryz.underlying3 (lr _) (wr (by omega) (by omega))) ?_
    refine sq_ev rfl (ev_add (lr _) (lr _) (wr (by omega) (by omega))) ?_
    refine asr (lr _) rfl ?_
    refine sq_nil ?_
    exact ⟨⟨k + 1, by omega, fun i h hi => (by by_cases e : i = k; (subst e; exact hdec.2); exact hds i h (by omega)), fun _ => hlen⟩, by simp only; omega, Sub.fin 1 ⟨(by exact less_int eV), lr _, lr _, trivial⟩ (by rw [hdec.1] <;> rfl) (by simp [slotsIn, objsIn, sget, keepS, AObj.inB, AV.inB, AV.inL, AV.inE, inE_map]) (by simp [slotsIn, objsIn, sget, keepS, AObj.inB, AV.inB, AV.inL, AV.inE, inE_map]) (by simp [he0])⟩
   ·
    have g3' := g3
    try simp only [qq] at g3'
    have hnd : isD w[k] = false := dec_no hk' (by omega)
    refine sq_no rfl rfl (less_b g3) rfl rfl ?_
    refine sq_no rfl rfl (less_b g3) rfl rfl ?_
    refine sq_no rfl rfl (less_b g3) rfl rfl ?_
    refine sq_ev rfl (ev_pickF (v := .raw _) (less_b g3) (lr _)) ?_
    refine mvr (lr _) rfl ?_
    refine sq_call (args := [B false, S w]) rfl en152 (lr _) ⟨lr _, lr _, trivial⟩ (nsure_pan _ _ _) ?_ ?_
    rotate_left
    ·
     (rintro v _ ⟨rfl, (⟨_, h⟩ | ⟨hb, h⟩)⟩ <;> cases h; exact ⟨rfl, .pan (.ifc 167 (.agg [S w])), numR_none (numOf_dig hk' hnd), rfl, lr _⟩)
    rintro v _ ⟨rfl, (⟨hb, _⟩ | ⟨_, h⟩)⟩
    ·
     cases hb
    ·
     cases h
  ·
   have g2' := g2
   try simp only [qq] at g2'
   have hnd : isD w[k] = false := dec_no hk' (by omega)
   refine sq_no rfl rfl (less_b g2) rfl rfl ?_
   refine sq_no rfl rfl (less_b g2) rfl rfl ?_
   refine sq_ev rfl (ev_pickF (v := .raw _) (less_b g2) (lr _)) ?_
   refine mvr (lr _) rfl ?_
   refine sq_no rfl rfl (lr _) rfl rfl ?_
   refine sq_no rfl rfl (lr _) rfl rfl ?_
   refine sq_no rfl rfl (lr _) rfl rfl ?_
   refine sq_ev rfl (ev_pickF (v := .raw _) (lr _) (lr _)) ?_
   refine mvr (lr _) rfl ?_
   refine sq_call (args := [B false, S w]) rfl en152 (lr _) ⟨lr _, lr _, trivial⟩ (nsure_pan _ _ _) ?_ ?_
   rotate_left
   ·
    (rintro v _ ⟨rfl, (⟨_, h⟩ | ⟨hb, h⟩)⟩ <;> cases h; exact ⟨rfl, .pan (.ifc 167 (.agg [S w])), numR_none (numOf_dig hk' hnd), rfl, lr _⟩)
   rintro v _ ⟨rfl, (⟨hb, _⟩ | ⟨_, h⟩)⟩
   ·
    cases hb
   ·
    cases h
 ·
  obtain rfl : k = w.length := by rw [bs_size] at n1; omega
  have hv := valN_999 (Nat.le_refl w.length) (by rcases Nat.eq_zero_or_pos w.length with h | h; omega; exact h3 h) hds
  have htk : w.take w.length = w := List.take_length
  have hv2 := hv
  rw [htk] at hv2
  refine sq_ev rfl (ev_extract (lr _) rfl) ?_
  refine sq_nil (aw_seq ?_)
  refine aw_false (lr _) ?_
  refine aw_exit (aw_seq (aw_region ?_))
  refine mvr (lr _) rfl ?_
  refine sq_ev rfl (ev_sneS (lr _) (lr _)) ?_
  refine mvr (lr _) rfl ?_
  refine sq_split 32 (lr _) (fun g4 => ?_) (fun g4 => ?_)
  ·
   have g4' := g4
   try simp only [qq] at g4'
   have hwe : w ≠ [] := by simpa using g4
   refine sq_yes rfl rfl (less_b g4) rfl (ev_mv (v := .raw _) (lr _)) ?_
   refine sq_yes rfl rfl (less_b g4) rfl (ev_call en150 (lr _) (nitoa_pure _ (by omega) (by omega)) ⟨lr _, trivial⟩) ?_
   refine sq_yes rfl rfl (less_b g4) rfl (ev_mv (v := .raw _) (lr _)) ?_
   refine sq_yes rfl rfl (less_b g4) rfl (ev_seqS (lr _) (lr _)) ?_
   refine sq_ev rfl (ev_pickT (v := .raw _) (less_b g4) (lr _)) ?_
   refine mvr (lr _) rfl ?_
   refine sq_call (args := [B _, S w]) rfl en152 (lr _) ⟨lr _, lr _, trivial⟩ (nsure_pan _ _ _) ?_ ?_
   rotate_left
   ·
    (rintro v _ ⟨rfl, (⟨_, h⟩ | ⟨hb, h⟩)⟩ <;> cases h; exact ⟨rfl, .pan (.ifc 167 (.agg [S w])), numR_none (numOf_itoa (by simpa [htk] using hb)), rfl, lr _⟩)
   rintro v _ ⟨rfl, (⟨hb, h⟩ | ⟨_, h⟩)⟩ <;> cases h
   refine sq_nil (aw_seq (aw_region ?_))
   refine mvr (lr _) rfl ?_
   refine asr (lr _) rfl ?_
   refine sq_nil (aw_ret ?_)
   exact retQ_any (vs := [.raw _]) rfl rfl ⟨resVar_tmp _ _ _, trivial⟩ (⟨.ret (I (valN w)), numR_some (numOf_some (fun i h => hds i h h) (h3 (List.length_pos_iff.2 hwe)) hwe (by simpa [htk] using hb)), rfl, Less.eq (by simp)⟩)
  ·
   have g4' := g4
   try simp only [qq] at g4'
   have hwe : w = [] := by simpa using g4
   refine sq_no rfl rfl (less_b g4) rfl rfl ?_
   refine sq_no rfl rfl (less_b g4) rfl rfl ?_
   refine sq_no rfl rfl (less_b g4) rfl rfl ?_
   refine sq_no rfl rfl (less_b g4) rfl rfl ?_
   refine sq_ev rfl (ev_pickF (v := .raw _) (less_b g4) (lr _)) ?_
   refine mvr (lr _) rfl ?_
   refine sq_call (args := [B false, S w]) rfl en152 (lr _) ⟨lr _, lr _, trivial⟩ (nsure_pan _ _ _) ?_ ?_
   rotate_left
   ·
    (rintro v _ ⟨rfl, (⟨_, h⟩ | ⟨hb, h⟩)⟩ <;> cases h; exact ⟨rfl, .pan (.ifc 167 (.agg [S w])), numR_none (by subst hwe; exact numOf_nil), rfl, lr _⟩)
   rintro v _ ⟨rfl, (⟨hb, _⟩ | ⟨_, h⟩)⟩
   ·
    cases hb
   ·
    cases h


end Go.Proofs.YtjghdbdiejaacaaGreatDoor

namespace Go.Proofs.YtjghdbdiejaacaaGreatDoor
open Go Go.Ab Ni
theorem ar180 : arrElem Tryz.prog 180 = some (3, 9, 1) := by kernel_rfl
theorem bi180 : bldInfo Tryz.prog 180 = some ([.raw (.string ByteArray.empty), .raw (.string ByteArray.empty), .raw (.string ByteArray.empty)], false, [], 1) := by kernel_rfl
theorem en154 : Ent Tryz.prog 154 := Ent.of Tryz.func154 (by kernel_rfl) rfl
theorem en210 : Ent Tryz.prog 210 := Ent.of Tryz.func210 (by kernel_rfl) rfl
theorem en211 : Ent Tryz.prog 211 := Ent.of Tryz.func211 (by kernel_rfl) rfl
theorem en212 : Ent Tryz.prog 212 := Ent.of Tryz.func212 (by kernel_rfl) rfl
theorem en213 : Ent Tryz.prog 213 := Ent.of Tryz.func213 (by kernel_rfl) rfl
theorem fo169_0 : fOff Tryz.prog 169 0 = some (0, 27) := by kernel_rfl
theorem fo172_0 : fOff Tryz.prog 172 0 = some (0, 84) := by kernel_rfl
theorem fo173_0 : fOff Tryz.prog 173 0 = some (0, 84) := by kernel_rfl
theorem mt169 : methOf Tryz.prog 169 "kelir/night.numbers" = some 210 := by kernel_rfl
theorem mt172 : methOf Tryz.prog 172 "kelir/night.numbers" = some 211 := by kernel_rfl
theorem mt173 : methOf Tryz.prog 173 "kelir/night.numbers" = some 213 := by kernel_rfl
theorem ni172 : notIface Tryz.prog 172 = true := by kernel_rfl
theorem ni173 : notIface Tryz.prog 173 = true := by kernel_rfl
theorem ty172 : tySz Tryz.prog 172 = some (true, 5) := by kernel_rfl
theorem ty173 : tySz Tryz.prog 173 = some (true, 5) := by kernel_rfl
theorem ty180 : tySz Tryz.prog 180 = some (true, 3) := by kernel_rfl
theorem ty9 : tySz Tryz.prog 9 = some (false, 1) := by kernel_rfl
theorem z172 : zeroOf Tryz.prog 172 = some [.raw (.int .i64 0), .raw (.int .i64 0), .raw (.int .i64 0), .raw (.bool false), .raw (.int .i64 0)] := by kernel_rfl
theorem z173 : zeroOf Tryz.prog 173 = some [.raw (.int .i64 0), .raw (.int .i64 0), .raw (.int .i64 0), .raw (.bool false), .raw (.int .i64 0)] := by kernel_rfl
theorem z180 : zeroOf Tryz.prog 180 = some [.raw (.string ByteArray.empty), .raw (.string ByteArray.empty), .raw (.string ByteArray.empty)] := by kernel_rfl

/-- the rows' words -/
def wNight : List UInt8 := [110, 105, 103, 104, 116]
def wScene : List UInt8 := [115, 99, 101, 110, 101]
def wBattle : List UInt8 := [98, 97, 116, 116, 108, 101]
/-- a scene's numbers -/
def toldL (x : Sc) : List Int := [x.part, x.least, x.most] ++ (if 0 ≤ x.wants then [x.wants] else [])
def headT (p : Pl) (k : Nat) : List Int := [p.beg] ++ ((List.range k).map fun i => [wl p i, wh p i]).flatten
theorem headT_succ (p : Pl) (k : Nat) : headT p (k + 1) = headT p k ++ [wl p k, wh p k] := by simp [headT, List.range_succ]
def headL (p : Pl) : List Int := headT p 3
theorem headT_len (p : Pl) : ∀ k, (headT p k).length = 2 * k + 1
  | 0 => rfl
  | k + 1 => by rw [headT_succ, List.length_append, headT_len p k]; simp; omega
/-- numbers behind a word -/
def numsL (l : List Int) : List UInt8 := (l.map fun n => 32 :: Lib.itoa n).flatten
theorem numsL_take {l : List Int} {k : Nat} (h : k < l.length) : numsL (l.take (k + 1)) = numsL (l.take k) ++ (32 :: Lib.itoa l[k]) := by
  unfold numsL; rw [map_take_succ _ h, List.flatten_append]; simp
abbrev rowV (p : Pl) : Option Sc → AV
  | none => .ifc 169 (.agg (planC p))
  | some x => .ifc (if x.loose then 172 else 173) (.agg (sc x))
def sceneL (w : List UInt8) (x : Sc) : List UInt8 := w ++ numsL (toldL x) ++ (if 0 ≤ x.wants then [] else [32, 45])
theorem decDigits_len : ∀ (m u : Nat), u < 10 ^ (m + 1) → (Lib.decDigits u).length ≤ m + 1
  | 0, u, h => by rw [Lib.decDigits, dif_pos (by simpa using h)]; simp
  | m + 1, u, h => by
    rw [Lib.decDigits]
    split
    · simp
    · rw [List.length_append]
      have : u / 10 < 10 ^ (m + 1) := by rw [Nat.pow_succ] at h; omega
      have := decDigits_len m (u / 10) this
      simp; omega
theorem itoa_len {n : Int} (h : -1000000 ≤ n ∧ n ≤ 1000000) : (Lib.itoa n).length ≤ 8 := by
  unfold Lib.itoa
  split
  · have := decDigits_len 6 n.natAbs (by omega)
    simp; omega
  · have := decDigits_len 6 n.toNat (by omega)
    omega
theorem numsL_len (l : List Int) (k : Nat) (hb : ∀ n ∈ l, -1000000 ≤ n ∧ n ≤ 1000000) : (numsL (l.take k)).length ≤ 9 * k := by
  induction k with
  | zero => simp [numsL]
  | succ k ih =>
    rcases Nat.lt_or_ge k l.length with h | h
    · rw [numsL_take h, List.length_append, List.length_cons]
      have := itoa_len (hb _ (List.getElem_mem h)); omega
    · rw [List.take_of_length_le (by omega)]; rw [List.take_of_length_le (by omega)] at ih; omega
def lineL (p : Pl) : Option Sc → List UInt8
  | none => wNight ++ numsL (headL p)
  | some x => (if x.loose then wBattle else wScene) ++ numsL (toldL x) ++ (if 0 ≤ x.wants then [] else [32, 45])
set_option maxHeartbeats 400000 in
/-- kelir/night.names -/
theorem nnames_pure  : APure Tryz.prog 154 [] (.agg [S wNight, S wScene, S wBattle]) := by
  refine apure_of (rs := [.cell 0 180]) Tryz.func154 rfl rfl (Nat.le_of_ble_eq_true rfl) (by simp [AV.pureL, AV.pureB, AV.pureE, pureE_map]) (rfl) fun e0 he0 => ?_
  refine aw_seq (aw_region ?_)
  refine sq_alloc rfl z180 ?_
  refine sq_nil (aw_seq (aw_region ?_))
  refine sq_ev rfl (ev_build bi180 rfl) ?_
  refine sq_store rfl (lr _) (lr _) rfl rfl ty180 rfl rfl ?_
  refine sq_nil (aw_ret ?_)
  exact retQ_res (vs := [.agg _]) rfl rfl ⟨resVar_cell rfl rfl ty180 rfl, trivial⟩ (lr _)

set_option maxHeartbeats 400000 in
/-- kelir/night.told -/
theorem ntold_pure (x : Sc) : APure Tryz.prog 212 [.agg (sc x)] (ints (toldL x)) := by
 refine apure_of (rs := [.tmp 2]) Tryz.func212 rfl rfl (Nat.le_of_ble_eq_true rfl) (by simp [AV.pureL, AV.pureB, AV.pureE, pureE_map]) (by simp [AV.pureL, AV.pureB, AV.pureE, pureE_map]) fun e0 he0 => ?_
 refine aw_seq (aw_region ?_)
 refine sq_box rfl (lr _) rfl ?_
 refine asr (lr _) rfl ?_
 refine sq_nil (aw_seq (aw_region ?_))
 refine sq_ev rfl (ev_fieldAddr fo84_0 (lr _)) ?_
 refine sq_ev rfl (ev_load (lr _) rfl ty3 rfl) ?_
 refine sq_ev rfl (ev_fieldAddr fo84_1 (lr _)) ?_
 refine sq_ev rfl (ev_load (lr _) rfl ty3 rfl) ?_
 refine sq_ev rfl (ev_fieldAddr fo84_2 (lr _)) ?_
 refine sq_ev rfl (ev_load (lr _) rfl ty3 rfl) ?_
 refine sq_ev rfl (ev_buildSlice (es := [[_], [_], [_]]) sf34 rfl rfl rfl rfl) ?_
 refine sq_ev rfl (ev_as (v := .slx _ _) (lr _)) ?_
 refine sq_nil (aw_seq (aw_seq (aw_region ?_)))
 refine sq_ev rfl (ev_fieldAddr fo84_4 (lr _)) ?_
 refine sq_ev rfl (ev_load (lr _) rfl ty3 rfl) ?_
 refine sq_ev rfl (ev_geq (lr _) (lr _)) ?_
 refine sq_nil ?_
 refine aw_cond (lr _) (fun c1 => ?_) (fun c1 => ?_)
 ·
  have c1' := c1
  try simp only [qq] at c1'
  refine aw_region ?_
  refine sq_ev rfl (ev_mv (v := .slx _ _) (lr _)) ?_
  refine sq_ev rfl (ev_fieldAddr fo84_4 (lr _)) ?_
  refine sq_ev rfl (ev_load (lr _) rfl ty3 rfl) ?_
  refine sq_ev rfl (ev_buildSlice (es := [[_]]) sf34 rfl rfl rfl rfl) ?_
  refine sq_ev rfl (ev_append sf34 Tryz.underlying34 (lr _) (less_slx _ _) (by simp) (by simp)) ?_
  refine sq_ev rfl (ev_as (v := .sl _ _) (lr _)) ?_
  refine sq_nil (aw_seq (aw_region ?_))
  refine sq_ev rfl (ev_mv (v := .sl _ _) (lr _)) ?_
  refine sq_ev rfl (ev_as (v := .sl _ _) (lr _)) ?_
  refine sq_nil (aw_ret ?_)
  exact retQ_pure (v := .sl _ _) rfl rfl (Less.eq (by rw [toldL, if_pos (by omega)] <;> rfl))
 ·
  have c1' := c1
  try simp only [qq] at c1'
  refine aw_skip (aw_seq (aw_region ?_))
  refine sq_ev rfl (ev_mv (v := .slx _ _) (lr _)) ?_
  refine sq_ev rfl (ev_as (v := .slx _ _) (lr _)) ?_
  refine sq_nil (aw_ret ?_)
  exact retQ_pure (v := .slx _ _) rfl rfl (Less.trans (less_slx _ _) (Less.eq (by rw [toldL, if_neg (by omega)] <;> rfl)))

set_option maxHeartbeats 400000 in
/-- (kelir/night.battle).numbers -/
theorem nbattle_pure (x : Sc) : APure Tryz.prog 211 [.agg (sc x)] (ints (toldL x)) := by
 refine apure_of (rs := [.tmp 2]) Tryz.func211 rfl rfl (Nat.le_of_ble_eq_true rfl) (by simp [AV.pureL, AV.pureB, AV.pureE, pureE_map]) (by simp [AV.pureL, AV.pureB, AV.pureE, pureE_map]) fun e0 he0 => ?_
 refine aw_seq (aw_region ?_)
 refine sq_box rfl (lr _) rfl ?_
 refine asr (lr _) rfl ?_
 refine sq_nil (aw_seq (aw_region ?_))
 refine sq_ev rfl (ev_fieldAddr fo172_0 (lr _)) ?_
 refine sq_ev rfl (ev_load_agg (lr _) rfl ty84 rfl) ?_
 refine sq_ev rfl (ev_call en212 (lr _) (ntold_pure x) ⟨lr _, trivial⟩) ?_
 refine sq_ev rfl (ev_as (v := .sl _ _) (lr _)) ?_
 refine sq_nil (aw_ret ?_)
 exact retQ_pure (v := .sl _ _) rfl rfl (Less.eq (by simp))

set_option maxHeartbeats 400000 in
/-- (kelir/night.scene).numbers -/
theorem nscenen_pure (x : Sc) : APure Tryz.prog 213 [.agg (sc x)] (ints (toldL x)) := by
 refine apure_of (rs := [.tmp 2]) Tryz.func213 rfl rfl (Nat.le_of_ble_eq_true rfl) (by simp [AV.pureL, AV.pureB, AV.pureE, pureE_map]) (by simp [AV.pureL, AV.pureB, AV.pureE, pureE_map]) fun e0 he0 => ?_
 refine aw_seq (aw_region ?_)
 refine sq_box rfl (lr _) rfl ?_
 refine asr (lr _) rfl ?_
 refine sq_nil (aw_seq (aw_region ?_))
 refine sq_ev rfl (ev_fieldAddr fo173_0 (lr _)) ?_
 refine sq_ev rfl (ev_load_agg (lr _) rfl ty84 rfl) ?_
 refine sq_ev rfl (ev_call en212 (lr _) (ntold_pure x) ⟨lr _, trivial⟩) ?_
 refine sq_ev rfl (ev_as (v := .sl _ _) (lr _)) ?_
 refine sq_nil (aw_ret ?_)
 exact retQ_pure (v := .sl _ _) rfl rfl (Less.eq (by simp))

set_option maxHeartbeats 1000000 in
/-- (kelir/night.head).numbers -/
theorem nhead_pure (p : Pl) : APure Tryz.prog 210 [.agg (planC p)] (ints (headL p)) := by
 refine apure_of (rs := [.tmp 2]) Tryz.func210 rfl rfl (Nat.le_of_ble_eq_true rfl) (by simp [AV.pureL, AV.pureB, AV.pureE, pureE_map]) (by simp [AV.pureL, AV.pureB, AV.pureE, pureE_map]) fun e0 he0 => ?_
 refine aw_seq (aw_region ?_)
 refine sq_box rfl (lr _) rfl ?_
 refine asr (lr _) rfl ?_
 refine sq_nil (aw_seq (aw_region ?_))
 refine sq_ev rfl (ev_fieldAddr fo169_0 (lr _)) ?_
 refine sq_ev rfl (ev_fieldAddr fo27_0 (lr _)) ?_
 refine sq_ev rfl (ev_load (lr _) rfl ty3 rfl) ?_
 refine sq_ev rfl (ev_buildSlice (es := [[_]]) sf34 rfl rfl rfl rfl) ?_
 refine sq_ev rfl (ev_as (v := .slx _ _) (lr _)) ?_
 refine sq_nil (aw_seq (aw_seq (aw_region ?_)))
 refine mvr (lr _) rfl ?_
 refine sq_nil (aw_block ?_)
 refine aw_sub (sub_token_slx 3 1 (lr _)) ?_
 refine aw_loopk (ι := { k : Nat // k ≤ 3 }) [1] (fun i => [(10, I i.1), (3, .own 1 1 ((headT p i.1).map fun x => [I x]))]) (fun H i => H.set 1 (.tok ((headT p i.1).map fun x => [I x]).length)) (fun i => 3 - i.1) (⟨0, Nat.zero_le _⟩) ⟨lr _, lr _, lr _, trivial⟩ rfl ?_
 rintro ⟨k, hk⟩
 dsimp only [keepS, St.put, sget, slotsOf, List.map_cons, List.map_nil, List.cons_append, List.nil_append, List.length_cons, List.length_nil, Nat.reduceBEq, Nat.reduceAdd, cond_true, cond_false]
 have hhl := headT_len p k
 refine aw_seq (aw_region ?_)
 refine sq_ev rfl (ev_lss (lr _) (lr _)) ?_
 refine sq_nil (aw_seq ?_)
 refine aw_cond (lr _) (fun c1 => ?_) (fun c1 => ?_)
 ·
  have c1' := c1
  try simp only [qq] at c1'
  have hk3 : k < 3 := by omega
  have eS : (headT p (k + 1)).map (fun x => [I x]) = (headT p k).map (fun x => [I x]) ++ [[I (wl p k)], [I (wh p k)]] := by rw [headT_succ, List.map_append]; rfl
  refine aw_skip (aw_seq (aw_block (aw_seq (aw_region ?_))))
  refine mvr (lr _) rfl ?_
  refine asr (lr _) rfl ?_
  refine sq_nil (aw_seq (aw_region ?_))
  refine sq_ev rfl (ev_fieldAddr fo169_0 (lr _)) ?_
  refine sq_ev rfl (ev_load_agg (lr _) rfl ty27 rfl) ?_
  refine mvr (lr _) rfl ?_
  refine sq_ev rfl (ev_call en142 (lr _) (nwindow_pure p k hk3) ⟨lr _, lr _, trivial⟩) ?_
  refine sq_alloc rfl z23 ?_
  refine sq_store rfl (lr _) (lr _) rfl rfl ty23 rfl rfl ?_
  refine sq_nil (aw_region ?_)
  refine sq_ev rfl (ev_mv (v := .own _ _ _) (lr _)) ?_
  refine sq_ev rfl (ev_fieldAddr fo23_0 (lr _)) ?_
  refine sq_ev rfl (ev_load (lr _) rfl ty3 rfl) ?_
  refine sq_ev rfl (ev_fieldAddr fo23_1 (lr _)) ?_
  refine sq_ev rfl (ev_load (lr _) rfl ty3 rfl) ?_
  refine sq_ev rfl (ev_buildSlice (es := [[_], [_]]) sf34 rfl rfl rfl rfl) ?_
  refine sq_append rfl sf34 Tryz.underlying34 rfl rfl (less_slx _ _) (Nat.succ_pos _) (by simp; omega) (by simp; omega) ?_
  refine sq_ev rfl (ev_as (v := .own _ _ _) (lr _)) ?_
  refine sq_nil (aw_region ?_)
  refine sq_ev rfl (ev_add (lr _) (lr _) (wr (by omega) (by omega))) ?_
  refine mvr (lr _) rfl ?_
  refine sq_nil ?_
  exact ⟨⟨k + 1, by omega⟩, by simp only; omega, Sub.fin 2 ⟨lr _, Less.eq (b := .own 1 1 ((headT p (k + 1)).map fun x => [I x])) (by rw [eS] <;> rfl), lr _, trivial⟩ (congrArg (fun n => [_, AObj.tok n]) (congrArg List.length eS.symm)) (by simp [slotsIn, objsIn, sget, keepS, AObj.inB, AV.inB, AV.inL, AV.inE, inE_map, inE_ints, inE_sc, -List.map_append, -List.map_take, -List.map_map]) (by simp [slotsIn, objsIn, sget, keepS, AObj.inB, AV.inB, AV.inL, AV.inE, inE_map, inE_ints, inE_sc, -List.map_append, -List.map_take, -List.map_map]) (by simp [he0])⟩
 ·
  have c1' := c1
  try simp only [qq] at c1'
  obtain rfl : k = 3 := by omega
  refine aw_exit (aw_seq (aw_region ?_))
  refine sq_ev rfl (ev_mv (v := .own _ _ _) (lr _)) ?_
  refine sq_ev rfl (ev_as (v := .own _ _ _) (lr _)) ?_
  refine sq_nil (aw_ret ?_)
  exact retQ_pure (v := .own _ _ _) rfl rfl (Less.trans (less_own _ _ _) (Less.eq (by rfl)))

set_option maxHeartbeats 1000000 in
/-- kelir/night.line -/
theorem nlineH_pure (p : Pl) (hb1 : ∀ n ∈ headL p, -1000000 ≤ n ∧ n ≤ 1000000) : APure Tryz.prog 149 [.ifc 169 (.agg (planC p))] (S (lineL p none)) := by
 refine apure_of (rs := [.tmp 2]) Tryz.func149 rfl rfl (Nat.le_of_ble_eq_true rfl) (by simp [AV.pureL, AV.pureB, AV.pureE, pureE_map]) (rfl) fun e0 he0 => ?_
 refine aw_seq (aw_region ?_)
 refine asr (lr _) rfl ?_
 refine sq_nil (aw_seq (aw_region ?_))
 refine asr (lr _) rfl ?_
 refine asr (lr _) rfl ?_
 refine sq_nil (aw_seq (aw_seq (aw_region ?_)))
 refine sq_ev rfl (ev_mv (v := .ifc _ _) (lr _)) ?_
 refine sq_nil (aw_block (aw_seq (aw_region ?_)))
 refine sq_ev rfl (ev_assert_no ni173 z173 rfl (lr _)) ?_
 refine sq_ev rfl (ev_extract (lr _) rfl) ?_
 refine sq_ev rfl (ev_extract (lr _) rfl) ?_
 refine sq_nil ?_
 refine aw_false (lr _) ?_
 refine aw_seq (aw_region ?_)
 refine sq_ev rfl (ev_assert_no ni172 z172 rfl (lr _)) ?_
 refine sq_ev rfl (ev_extract (lr _) rfl) ?_
 refine sq_ev rfl (ev_extract (lr _) rfl) ?_
 refine sq_nil ?_
 refine aw_false (lr _) ?_
 refine aw_skip (aw_seq (aw_region ?_))
 refine sq_ev rfl (ev_call en154 (lr _) (nnames_pure) trivial) ?_
 refine mvr (lr _) rfl ?_
 refine sq_ev rfl (ev_indexv (k := 0) ar180 ty9 (lr _) (lr _) rfl (by decide) rfl) ?_
 refine asr (lr _) rfl ?_
 refine sq_nil (aw_seq (aw_seq (aw_region ?_)))
 refine sq_ev rfl (ev_mv (v := .ifc _ _) (lr _)) ?_
 refine sq_ev rfl (ev_invoke mt169 en210 (lr _) (nhead_pure p)) ?_
 refine sq_ev rfl (ev_len_map sl34 (lr _)) ?_
 refine mvr (lr _) rfl ?_
 refine sq_nil (aw_block ?_)
 refine aw_loopk (ι := { k : Nat // k ≤ (headL p).length }) [4, 29, 30] (fun i => [(31, I i.1), (7, S (wNight ++ numsL ((headL p).take i.1)))]) (fun H i => H) (fun i => (headL p).length - i.1) (⟨0, Nat.zero_le _⟩) ⟨lr _, Less.eq (by simp [numsL] <;> rfl), lr _, lr _, lr _, trivial⟩ rfl ?_
 rintro ⟨k, hk⟩
 dsimp only [keepS, St.put, sget, slotsOf, List.map_cons, List.map_nil, List.cons_append, List.nil_append, List.length_cons, List.length_nil, Nat.reduceBEq, Nat.reduceAdd, cond_true, cond_false]
 have hnl := numsL_len (headL p) k hb1
 have hwl : (wNight).length ≤ 6 := by decide
 have hll : (headL p).length ≤ 7 := by have := headT_len p 3; show (headT p 3).length ≤ 7; omega
 refine aw_seq (aw_region ?_)
 refine sq_ev rfl (ev_lss (lr _) (lr _)) ?_
 refine sq_nil (aw_seq ?_)
 refine aw_cond (lr _) (fun c1 => ?_) (fun c1 => ?_)
 ·
  have c1' := c1
  try simp only [qq] at c1'
  have hk' : k < (headL p).length := by omega
  have hb2 := hb1 _ (List.getElem_mem hk')
  have hil := itoa_len hb2
  have eL : S (wNight ++ numsL ((headL p).take k) ++ ([32] ++ Lib.itoa (headL p)[k])) = S (wNight ++ numsL ((headL p).take (k + 1))) := by rw [numsL_take hk', List.append_assoc]; rfl
  refine aw_skip (aw_seq (aw_block (aw_seq (aw_region ?_))))
  refine sq_ev rfl (ev_index_map sl34 (lr _) (lr _) rfl (by omega)) ?_
  refine sq_ev rfl (ev_load_i (lr _) ty3 rfl) ?_
  refine asr (lr _) rfl ?_
  refine sq_nil (aw_region ?_)
  refine mvr (lr _) rfl ?_
  refine mvr (lr _) rfl ?_
  refine sq_ev rfl (ev_call en150 (lr _) (nitoa_pure _ (by omega) (by omega)) ⟨lr _, trivial⟩) ?_
  refine sq_ev rfl (ev_catS (lr _) (lr _) (by simp; omega)) ?_
  refine sq_ev rfl (ev_catS (lr _) (lr _) (by simp; omega)) ?_
  refine asr (lr _) rfl ?_
  refine sq_nil (aw_region ?_)
  refine sq_ev rfl (ev_add (lr _) (lr _) (wr (by omega) (by omega))) ?_
  refine mvr (lr _) rfl ?_
  refine sq_nil ?_
  exact ⟨⟨k + 1, by omega⟩, by simp only; omega, Sub.slots ⟨lr _, Less.eq eL, lr _, lr _, lr _, trivial⟩⟩
 ·
  have c1' := c1
  try simp only [qq] at c1'
  obtain rfl : k = (headL p).length := by omega
  have hnl2 := hnl
  rw [List.take_length] at hnl2
  refine aw_exit (aw_seq (aw_seq (aw_region ?_)))
  refine mvr (lr _) rfl ?_
  refine sq_ev rfl (ev_not (lr _)) ?_
  refine sq_nil ?_
  refine aw_cond (lr _) (fun c2 => ?_) (fun c2 => ?_)
  ·
   have c2' := c2
   try simp only [qq] at c2'
   cases c2
  ·
   have c2' := c2
   try simp only [qq] at c2'
   refine aw_skip (aw_seq (aw_region ?_))
   refine mvr (lr _) rfl ?_
   refine asr (lr _) rfl ?_
   refine sq_nil (aw_ret ?_)
   exact retQ_pure (v := .raw _) rfl rfl (Less.eq (by simp [lineL]))

set_option maxHeartbeats 1000000 in
/-- kelir/night.line -/
theorem nlineS_pure (x : Sc) (hb1 : ∀ n ∈ toldL x, -1000000 ≤ n ∧ n ≤ 1000000) (hll : (toldL x).length ≤ 4) : APure Tryz.prog 149 [.ifc 173 (.agg (sc x))] (S (sceneL wScene x)) := by
 refine apure_of (rs := [.tmp 2]) Tryz.func149 rfl rfl (Nat.le_of_ble_eq_true rfl) (by simp [AV.pureL, AV.pureB, AV.pureE, pureE_map]) (rfl) fun e0 he0 => ?_
 refine aw_seq (aw_region ?_)
 refine asr (lr _) rfl ?_
 refine sq_nil (aw_seq (aw_region ?_))
 refine asr (lr _) rfl ?_
 refine asr (lr _) rfl ?_
 refine sq_nil (aw_seq (aw_seq (aw_region ?_)))
 refine sq_ev rfl (ev_mv (v := .ifc _ _) (lr _)) ?_
 refine sq_nil (aw_block (aw_seq (aw_region ?_)))
 refine sq_ev rfl (ev_assert_yes ni173 (lr _)) ?_
 refine sq_ev rfl (ev_extract (lr _) rfl) ?_
 refine sq_ev rfl (ev_extract (lr _) rfl) ?_
 refine sq_nil ?_
 refine aw_true (lr _) ?_
 refine aw_seq (aw_region ?_)
 refine sq_alloc rfl z173 ?_
 refine sq_store rfl (lr _) (lr _) rfl rfl ty173 rfl rfl ?_
 refine sq_nil ?_
 refine aw_draw 6 mo (by kernel_rfl) ?_
 refine dr_ev rfl (ev_fieldAddr fo173_0 (lr _)) ?_
 refine dr_ev rfl (ev_fieldAddr fo84_4 (lr _)) ?_
 refine dr_ev rfl (ev_load (lr _) rfl ty3 rfl) ?_
 refine dr_ev rfl (ev_geq (lr _) (lr _)) ?_
 refine dr_ev rfl (ev_as (v := .raw _) (lr _)) ?_
 refine dr_ev rfl (ev_as (v := .raw _) (lr _)) ?_
 refine dr_end (sq_nil (aw_seq (aw_region ?_)))
 refine sq_ev rfl (ev_call en154 (lr _) (nnames_pure) trivial) ?_
 refine mvr (lr _) rfl ?_
 refine sq_ev rfl (ev_indexv (k := 1) ar180 ty9 (lr _) (lr _) rfl (by decide) rfl) ?_
 refine asr (lr _) rfl ?_
 refine sq_nil (aw_seq (aw_seq (aw_region ?_)))
 refine sq_ev rfl (ev_mv (v := .ifc _ _) (lr _)) ?_
 refine sq_ev rfl (ev_invoke mt173 en213 (lr _) (nscenen_pure x)) ?_
 refine sq_ev rfl (ev_len_map sl34 (lr _)) ?_
 refine mvr (lr _) rfl ?_
 refine sq_nil (aw_block ?_)
 refine aw_loopk (ι := { k : Nat // k ≤ (toldL x).length }) [4, 29, 30] (fun i => [(31, I i.1), (7, S (wScene ++ numsL ((toldL x).take i.1)))]) (fun H i => H) (fun i => (toldL x).length - i.1) (⟨0, Nat.zero_le _⟩) ⟨lr _, Less.eq (by simp [numsL] <;> rfl), lr _, lr _, lr _, trivial⟩ rfl ?_
 rintro ⟨k, hk⟩
 dsimp only [keepS, St.put, sget, slotsOf, List.map_cons, List.map_nil, List.cons_append, List.nil_append, List.length_cons, List.length_nil, Nat.reduceBEq, Nat.reduceAdd, cond_true, cond_false]
 have hnl := numsL_len (toldL x) k hb1
 have hwl : (wScene).length ≤ 6 := by decide
 refine aw_seq (aw_region ?_)
 refine sq_ev rfl (ev_lss (lr _) (lr _)) ?_
 refine sq_nil (aw_seq ?_)
 refine aw_cond (lr _) (fun c1 => ?_) (fun c1 => ?_)
 ·
  have c1' := c1
  try simp only [qq] at c1'
  have hk' : k < (toldL x).length := by omega
  have hb2 := hb1 _ (List.getElem_mem hk')
  have hil := itoa_len hb2
  have eL : S (wScene ++ numsL ((toldL x).take k) ++ ([32] ++ Lib.itoa (toldL x)[k])) = S (wScene ++ numsL ((toldL x).take (k + 1))) := by rw [numsL_take hk', List.append_assoc]; rfl
  refine aw_skip (aw_seq (aw_block (aw_seq (aw_region ?_))))
  refine sq_ev rfl (ev_index_map sl34 (lr _) (lr _) rfl (by omega)) ?_
  refine sq_ev rfl (ev_load_i (lr _) ty3 rfl) ?_
  refine asr (lr _) rfl ?_
  refine sq_nil (aw_region ?_)
  refine mvr (lr _) rfl ?_
  refine mvr (lr _) rfl ?_
  refine sq_ev rfl (ev_call en150 (lr _) (nitoa_pure _ (by omega) (by omega)) ⟨lr _, trivial⟩) ?_
  refine sq_ev rfl (ev_catS (lr _) (lr _) (by simp; omega)) ?_
  refine sq_ev rfl (ev_catS (lr _) (lr _) (by simp; omega)) ?_
  refine asr (lr _) rfl ?_
  refine sq_nil (aw_region ?_)
  refine sq_ev rfl (ev_add (lr _) (lr _) (wr (by omega) (by omega))) ?_
  refine mvr (lr _) rfl ?_
  refine sq_nil ?_
  exact ⟨⟨k + 1, by omega⟩, by simp only; omega, Sub.slots ⟨lr _, Less.eq eL, lr _, lr _, lr _, trivial⟩⟩
 ·
  have c1' := c1
  try simp only [qq] at c1'
  obtain rfl : k = (toldL x).length := by omega
  have hnl2 := hnl
  rw [List.take_length] at hnl2
  refine aw_exit (aw_seq (aw_seq (aw_region ?_)))
  refine mvr (lr _) rfl ?_
  refine sq_ev rfl (ev_not (lr _)) ?_
  refine sq_nil ?_
  refine aw_cond (lr _) (fun c2 => ?_) (fun c2 => ?_)
  ·
   have c2' := c2
   try simp only [qq] at c2'
   refine aw_region ?_
   refine mvr (lr _) rfl ?_
   refine sq_ev rfl (ev_catS (lr _) (lr _) (by simp; omega)) ?_
   refine asr (lr _) rfl ?_
   refine sq_nil (aw_seq (aw_region ?_))
   refine mvr (lr _) rfl ?_
   refine asr (lr _) rfl ?_
   refine sq_nil (aw_ret ?_)
   exact retQ_pure (v := .raw _) rfl rfl (Less.eq (by rw [sceneL, if_neg (by omega)]; simp))
  ·
   have c2' := c2
   try simp only [qq] at c2'
   refine aw_skip (aw_seq (aw_region ?_))
   refine mvr (lr _) rfl ?_
   refine asr (lr _) rfl ?_
   refine sq_nil (aw_ret ?_)
   exact retQ_pure (v := .raw _) rfl rfl (Less.eq (by rw [sceneL, if_pos (by omega)]; simp))

set_option maxHeartbeats 1000000 in
/-- kelir/night.line -/
theorem nlineB_pure (x : Sc) (hb1 : ∀ n ∈ toldL x, -1000000 ≤ n ∧ n ≤ 1000000) (hll : (toldL x).length ≤ 4) : APure Tryz.prog 149 [.ifc 172 (.agg (sc x))] (S (sceneL wBattle x)) := by
 refine apure_of (rs := [.tmp 2]) Tryz.func149 rfl rfl (Nat.le_of_ble_eq_true rfl) (by simp [AV.pureL, AV.pureB, AV.pureE, pureE_map]) (rfl) fun e0 he0 => ?_
 refine aw_seq (aw_region ?_)
 refine asr (lr _) rfl ?_
 refine sq_nil (aw_seq (aw_region ?_))
 refine asr (lr _) rfl ?_
 refine asr (lr _) rfl ?_
 refine sq_nil (aw_seq (aw_seq (aw_region ?_)))
 refine sq_ev rfl (ev_mv (v := .ifc _ _) (lr _)) ?_
 refine sq_nil (aw_block (aw_seq (aw_region ?_)))
 refine sq_ev rfl (ev_assert_no ni173 z173 rfl (lr _)) ?_
 refine sq_ev rfl (ev_extract (lr _) rfl) ?_
 refine sq_ev rfl (ev_extract (lr _) rfl) ?_
 refine sq_nil ?_
 refine aw_false (lr _) ?_
 refine aw_seq (aw_region ?_)
 refine sq_ev rfl (ev_assert_yes ni172 (lr _)) ?_
 refine sq_ev rfl (ev_extract (lr _) rfl) ?_
 refine sq_ev rfl (ev_extract (lr _) rfl) ?_
 refine sq_nil ?_
 refine aw_true (lr _) ?_
 refine aw_seq (aw_region ?_)
 refine sq_alloc rfl z172 ?_
 refine sq_store rfl (lr _) (lr _) rfl rfl ty172 rfl rfl ?_
 refine sq_nil ?_
 refine aw_draw 6 mo (by kernel_rfl) ?_
 refine dr_ev rfl (ev_fieldAddr fo172_0 (lr _)) ?_
 refine dr_ev rfl (ev_fieldAddr fo84_4 (lr _)) ?_
 refine dr_ev rfl (ev_load (lr _) rfl ty3 rfl) ?_
 refine dr_ev rfl (ev_geq (lr _) (lr _)) ?_
 refine dr_ev rfl (ev_as (v := .raw _) (lr _)) ?_
 refine dr_ev rfl (ev_as (v := .raw _) (lr _)) ?_
 refine dr_end (sq_nil (aw_seq (aw_region ?_)))
 refine sq_ev rfl (ev_call en154 (lr _) (nnames_pure) trivial) ?_
 refine mvr (lr _) rfl ?_
 refine sq_ev rfl (ev_indexv (k := 2) ar180 ty9 (lr _) (lr _) rfl (by decide) rfl) ?_
 refine asr (lr _) rfl ?_
 refine sq_nil (aw_seq (aw_seq (aw_region ?_)))
 refine sq_ev rfl (ev_mv (v := .ifc _ _) (lr _)) ?_
 refine sq_ev rfl (ev_invoke mt172 en211 (lr _) (nbattle_pure x)) ?_
 refine sq_ev rfl (ev_len_map sl34 (lr _)) ?_
 refine mvr (lr _) rfl ?_
 refine sq_nil (aw_block ?_)
 refine aw_loopk (ι := { k : Nat // k ≤ (toldL x).length }) [4, 29, 30] (fun i => [(31, I i.1), (7, S (wBattle ++ numsL ((toldL x).take i.1)))]) (fun H i => H) (fun i => (toldL x).length - i.1) (⟨0, Nat.zero_le _⟩) ⟨lr _, Less.eq (by simp [numsL] <;> rfl), lr _, lr _, lr _, trivial⟩ rfl ?_
 rintro ⟨k, hk⟩
 dsimp only [keepS, St.put, sget, slotsOf, List.map_cons, List.map_nil, List.cons_append, List.nil_append, List.length_cons, List.length_nil, Nat.reduceBEq, Nat.reduceAdd, cond_true, cond_false]
 have hnl := numsL_len (toldL x) k hb1
 have hwl : (wBattle).length ≤ 6 := by decide
 refine aw_seq (aw_region ?_)
 refine sq_ev rfl (ev_lss (lr _) (lr _)) ?_
 refine sq_nil (aw_seq ?_)
 refine aw_cond (lr _) (fun c1 => ?_) (fun c1 => ?_)
 ·
  have c1' := c1
  try simp only [qq] at c1'
  have hk' : k < (toldL x).length := by omega
  have hb2 := hb1 _ (List.getElem_mem hk')
  have hil := itoa_len hb2
  have eL : S (wBattle ++ numsL ((toldL x).take k) ++ ([32] ++ Lib.itoa (toldL x)[k])) = S (wBattle ++ numsL ((toldL x).take (k + 1))) := by rw [numsL_take hk', List.append_assoc]; rfl
  refine aw_skip (aw_seq (aw_block (aw_seq (aw_region ?_))))
  refine sq_ev rfl (ev_index_map sl34 (lr _) (lr _) rfl (by omega)) ?_
  refine sq_ev rfl (ev_load_i (lr _) ty3 rfl) ?_
  refine asr (lr _) rfl ?_
  refine sq_nil (aw_region ?_)
  refine mvr (lr _) rfl ?_
  refine mvr (lr _) rfl ?_
  refine sq_ev rfl (ev_call en150 (lr _) (nitoa_pure _ (by omega) (by omega)) ⟨lr _, trivial⟩) ?_
  refine sq_ev rfl (ev_catS (lr _) (lr _) (by simp; omega)) ?_
  refine sq_ev rfl (ev_catS (lr _) (lr _) (by simp; omega)) ?_
  refine asr (lr _) rfl ?_
  refine sq_nil (aw_region ?_)
  refine sq_ev rfl (ev_add (lr _) (lr _) (wr (by omega) (by omega))) ?_
  refine mvr (lr _) rfl ?_
  refine sq_nil ?_
  exact ⟨⟨k + 1, by omega⟩, by simp only; omega, Sub.slots ⟨lr _, Less.eq eL, lr _, lr _, lr _, trivial⟩⟩
 ·
  have c1' := c1
  try simp only [qq] at c1'
  obtain rfl : k = (toldL x).length := by omega
  have hnl2 := hnl
  rw [List.take_length] at hnl2
  refine aw_exit (aw_seq (aw_seq (aw_region ?_)))
  refine mvr (lr _) rfl ?_
  refine sq_ev rfl (ev_not (lr _)) ?_
  refine sq_nil ?_
  refine aw_cond (lr _) (fun c2 => ?_) (fun c2 => ?_)
  ·
   have c2' := c2
   try simp only [qq] at c2'
   refine aw_region ?_
   refine mvr (lr _) rfl ?_
   refine sq_ev rfl (ev_catS (lr _) (lr _) (by simp; omega)) ?_
   refine asr (lr _) rfl ?_
   refine sq_nil (aw_seq (aw_region ?_))
   refine mvr (lr _) rfl ?_
   refine asr (lr _) rfl ?_
   refine sq_nil (aw_ret ?_)
   exact retQ_pure (v := .raw _) rfl rfl (Less.eq (by rw [sceneL, if_neg (by omega)]; simp))
  ·
   have c2' := c2
   try simp only [qq] at c2'
   refine aw_skip (aw_seq (aw_region ?_))
   refine mvr (lr _) rfl ?_
   refine asr (lr _) rfl ?_
   refine sq_nil (aw_ret ?_)
   exact retQ_pure (v := .raw _) rfl rfl (Less.eq (by rw [sceneL, if_pos (by omega)]; simp))


end Go.Proofs.YtjghdbdiejaacaaGreatDoor

namespace Go.Proofs.YtjghdbdiejaacaaGreatDoor
open Go Go.Ab Ni
theorem bi169 : bldInfo Tryz.prog 169 = some ([.raw (.int .i64 0), .raw (.int .i64 0), .raw (.int .i64 0), .raw (.int .i64 0), .raw (.int .i64 0), .raw (.int .i64 0), .raw (.int .i64 0), .raw (.slice none 0 0)], true, [(0, 8)], 0) := by kernel_rfl
theorem bi172 : bldInfo Tryz.prog 172 = some ([.raw (.int .i64 0), .raw (.int .i64 0), .raw (.int .i64 0), .raw (.bool false), .raw (.int .i64 0)], true, [(0, 5)], 0) := by kernel_rfl
theorem bi173 : bldInfo Tryz.prog 173 = some ([.raw (.int .i64 0), .raw (.int .i64 0), .raw (.int .i64 0), .raw (.bool false), .raw (.int .i64 0)], true, [(0, 5)], 0) := by kernel_rfl
theorem en149 : Ent Tryz.prog 149 := Ent.of Tryz.func149 (by kernel_rfl) rfl
theorem ni169 : notIface Tryz.prog 169 = true := by kernel_rfl
theorem sf170 : SlFact Tryz.prog 170 175 1 16 := SlFact.of (by kernel_rfl)
theorem sl170 : slElem Tryz.prog 170 = some (175, 1) := by kernel_rfl
theorem ty175 : tySz Tryz.prog 175 = some (false, 1) := by kernel_rfl

/-- a plan of small numbers -/
structure SmP (p : Pl) : Prop where
  head : ∀ n ∈ headL p, -1000000 ≤ n ∧ n ≤ 1000000
  sc : ∀ x ∈ p.scenes, ∀ n ∈ toldL x, -1000000 ≤ n ∧ n ≤ 1000000
  len : p.scenes.length ≤ 1000
def rowsT (p : Pl) (k : Nat) : List (Option Sc) := none :: (p.scenes.take k).map some
def rowsL (p : Pl) : List (Option Sc) := rowsT p p.scenes.length
theorem rowsT_succ {p : Pl} {k : Nat} (h : k < p.scenes.length) : rowsT p (k + 1) = rowsT p k ++ [some p.scenes[k]] := by
  unfold rowsT; rw [map_take_succ _ h]; rfl
theorem rowsT_len {p : Pl} {k : Nat} (h : k ≤ p.scenes.length) : (rowsT p k).length = k + 1 := by simp [rowsT]; omega
theorem toldL_len (x : Sc) : (toldL x).length ≤ 4 := by unfold toldL; split <;> simp
theorem rowsL_mem {p : Pl} {r : Option Sc} (h : r ∈ rowsL p) : r = none ∨ ∃ x ∈ p.scenes, r = some x := by
  rcases List.mem_cons.1 h with h | h
  · exact .inl h
  · obtain ⟨x, hx, rfl⟩ := List.mem_map.1 h
    exact .inr ⟨x, List.mem_of_mem_take hx, rfl⟩
theorem nline_pure {p : Pl} (sm : SmP p) {r : Option Sc} (h : r ∈ rowsL p) : APure Tryz.prog 149 [rowV p r] (S (lineL p r)) := by
  rcases rowsL_mem h with rfl | ⟨x, hx, rfl⟩
  · exact nlineH_pure p sm.head
  · cases hl : x.loose with
    | true =>
      have := nlineB_pure x (sm.sc x hx) (toldL_len x)
      simpa only [rowV, lineL, hl, if_true, sceneL] using this
    | false =>
      have := nlineS_pure x (sm.sc x hx) (toldL_len x)
      simpa only [rowV, lineL, hl, Bool.false_eq_true, if_false, sceneL] using this
def linesL (p : Pl) : List (List UInt8) := (rowsL p).map (lineL p)
theorem numsL_len' (l : List Int) (hb : ∀ n ∈ l, -1000000 ≤ n ∧ n ≤ 1000000) : (numsL l).length ≤ 9 * l.length := by
  have := numsL_len l l.length hb; rwa [List.take_length] at this
theorem lineL_len {p : Pl} (sm : SmP p) : ∀ l ∈ linesL p, l.length ≤ 1000 := fun l hl => by
  obtain ⟨r, hr, rfl⟩ := List.mem_map.1 hl
  rcases rowsL_mem hr with rfl | ⟨x, hx, rfl⟩
  · have h1 := numsL_len' _ sm.head
    have h2 : (headL p).length = 7 := headT_len p 3
    simp only [lineL, List.length_append]
    have : wNight.length = 5 := rfl
    omega
  · have h1 := numsL_len' _ (sm.sc x hx)
    have h2 := toldL_len x
    simp only [lineL, List.length_append]
    have h3 : (if x.loose = true then wBattle else wScene).length ≤ 6 := by split <;> decide
    have h4 : (if 0 ≤ x.wants then ([] : List UInt8) else [32, 45]).length ≤ 2 := by split <;> decide
    omega
def sheetL (p : Pl) : List UInt8 := sealL (linesL p)
theorem inE_rows (n : Nat) (p : Pl) (l : List (Option Sc)) : AV.inE n (l.map fun r => [rowV p r]) = true := inE_map fun x _ => by cases x <;> simp [rowV, AV.inL, AV.inB, inE_sc]
set_option maxHeartbeats 2000000 in
/-- kelir/night.sheet -/
theorem nsheet_pure (p : Pl) (sm : SmP p) : APure Tryz.prog 112 [plan p] (S (sheetL p)) := by
  refine apure_of (rs := [.tmp 2]) Tryz.func112 rfl rfl (Nat.le_of_ble_eq_true rfl) (by simp [AV.pureL, AV.pureB, AV.pureE, pureE_map]) (rfl) fun e0 he0 => ?_
  refine aw_seq (aw_region ?_)
  refine sq_box rfl (lr _) rfl ?_
  refine asr (lr _) rfl ?_
  refine sq_nil (aw_seq (aw_region ?_))
  refine sq_ev rfl (ev_load_agg (lr _) rfl ty27 rfl) ?_
  refine sq_ev rfl (ev_build bi169 rfl) ?_
  refine sq_ev rfl (ev_makeIface ni169 (lr _)) ?_
  refine sq_ev rfl (ev_buildSlice (es := [[_]]) sf170 rfl rfl rfl rfl) ?_
  refine sq_ev rfl (ev_as (v := .slx _ _) (lr _)) ?_
  refine sq_nil (aw_seq (aw_seq (aw_region ?_)))
  refine sq_ev rfl (ev_fieldAddr fo27_3 (lr _)) ?_
  refine sq_ev rfl (ev_load (lr _) rfl ty25 rfl) ?_
  refine sq_ev rfl (ev_len_map sl25 (lr _)) ?_
  refine mvr (lr _) rfl ?_
  refine sq_nil (aw_block ?_)
  refine aw_sub (sub_token_slx 3 1 (lr _)) ?_
  refine aw_loopk (ι := { k : Nat // k ≤ p.scenes.length }) [17, 18] (fun i => [(19, I i.1), (3, .own 1 1 ((rowsT p i.1).map fun r => [rowV p r]))]) (fun H i => H.set 1 (.tok ((rowsT p i.1).map fun r => [rowV p r]).length)) (fun i => p.scenes.length - i.1) (⟨0, Nat.zero_le _⟩) ⟨lr _, lr _, lr _, lr _, trivial⟩ rfl ?_
  rintro ⟨k, hk⟩
  dsimp only [keepS, St.put, sget, slotsOf, List.map_cons, List.map_nil, List.cons_append, List.nil_append, List.length_cons, List.length_nil, Nat.reduceBEq, Nat.reduceAdd, cond_true, cond_false]
  have hrl := rowsT_len hk
  have hsl := sm.len
  refine aw_seq (aw_region ?_)
  refine sq_ev rfl (ev_lss (lr _) (lr _)) ?_
  refine sq_nil (aw_seq ?_)
  refine aw_cond (lr _) (fun c1 => ?_) (fun c1 => ?_)
  · skip
    have c1' := c1
    try simp only [qq] at c1'
    have hk' : k < p.scenes.length := by omega
    refine aw_skip (aw_seq (aw_block (aw_seq (aw_region ?_))))
    refine sq_ev rfl (ev_index_map sl25 (lr _) (lr _) rfl (by omega)) ?_
    refine sq_ev rfl (ev_load_agg_i (lr _) ty84 (Nat.le_of_ble_eq_true rfl)) ?_
    refine sq_alloc rfl z84 ?_
    refine sq_store rfl (lr _) (lr _) rfl rfl ty84 rfl rfl ?_
    refine sq_nil (aw_seq (aw_region ?_))
    refine sq_ev rfl (ev_fieldAddr fo84_3 (lr _)) ?_
    refine sq_ev rfl (ev_load (lr _) rfl ty4 rfl) ?_
    refine sq_nil ?_
    refine aw_cond (lr _) (fun c2 => ?_) (fun c2 => ?_)
    · skip
      have c2' := c2
      try simp only [qq] at c2'
      have eS : (rowsT p (k + 1)).map (fun r => [rowV p r]) = (rowsT p k).map (fun r => [rowV p r]) ++ [[.ifc 172 (.agg (sc p.scenes[k]))]] := by rw [rowsT_succ hk', List.map_append]; simp [rowV, c2']
      refine aw_region ?_
      refine sq_ev rfl (ev_mv (v := .own _ _ _) (lr _)) ?_
      refine sq_ev rfl (ev_load_agg (lr _) rfl ty84 rfl) ?_
      refine sq_ev rfl (ev_build bi172 rfl) ?_
      refine sq_ev rfl (ev_makeIface ni172 (lr _)) ?_
      refine sq_ev rfl (ev_buildSlice (es := [[_]]) sf170 rfl rfl rfl rfl) ?_
      refine sq_append rfl sf170 Tryz.underlying170 rfl rfl (less_slx _ _) (Nat.succ_pos _) (by simp; omega) (by simp; omega) ?_
      refine sq_ev rfl (ev_as (v := .own _ _ _) (lr _)) ?_
      refine sq_nil (aw_region ?_)
      refine sq_ev rfl (ev_add (lr _) (lr _) (wr (by omega) (by omega))) ?_
      refine mvr (lr _) rfl ?_
      refine sq_nil ?_
      exact ⟨⟨k + 1, by omega⟩, by simp only; omega, Sub.fin 2 ⟨lr _, Less.eq (b := .own 1 1 ((rowsT p (k + 1)).map fun r => [rowV p r])) (by rw [eS] <;> rfl), lr _, lr _, trivial⟩ (congrArg (fun n => [_, AObj.tok n]) (congrArg List.length eS.symm)) (by simp [slotsIn, objsIn, sget, keepS, AObj.inB, AV.inB, AV.inL, AV.inE, inE_map, inE_rows, inE_sc, -List.map_append, -List.map_take, -List.map_map]) (by simp [slotsIn, objsIn, sget, keepS, AObj.inB, AV.inB, AV.inL, AV.inE, inE_map, inE_rows, inE_sc, -List.map_append, -List.map_take, -List.map_map]) (by simp [he0])⟩
    · skip
      have c2' := c2
      try simp only [qq] at c2'
      have eS : (rowsT p (k + 1)).map (fun r => [rowV p r]) = (rowsT p k).map (fun r => [rowV p r]) ++ [[.ifc 173 (.agg (sc p.scenes[k]))]] := by rw [rowsT_succ hk', List.map_append]; simp [rowV, c2']
      refine aw_region ?_
      refine sq_ev rfl (ev_mv (v := .own _ _ _) (lr _)) ?_
      refine sq_ev rfl (ev_load_agg (lr _) rfl ty84 rfl) ?_
      refine sq_ev rfl (ev_build bi173 rfl) ?_
      refine sq_ev rfl (ev_makeIface ni173 (lr _)) ?_
      refine sq_ev rfl (ev_buildSlice (es := [[_]]) sf170 rfl rfl rfl rfl) ?_
      refine sq_append rfl sf170 Tryz.underlying170 rfl rfl (less_slx _ _) (Nat.succ_pos _) (by simp; omega) (by simp; omega) ?_
      refine sq_ev rfl (ev_as (v := .own _ _ _) (lr _)) ?_
      refine sq_nil (aw_region ?_)
      refine sq_ev rfl (ev_add (lr _) (lr _) (wr (by omega) (by omega))) ?_
      refine mvr (lr _) rfl ?_
      refine sq_nil ?_
      exact ⟨⟨k + 1, by omega⟩, by simp only; omega, Sub.fin 2 ⟨lr _, Less.eq (b := .own 1 1 ((rowsT p (k + 1)).map fun r => [rowV p r])) (by rw [eS] <;> rfl), lr _, lr _, trivial⟩ (congrArg (fun n => [_, AObj.tok n]) (congrArg List.length eS.symm)) (by simp [slotsIn, objsIn, sget, keepS, AObj.inB, AV.inB, AV.inL, AV.inE, inE_map, inE_rows, inE_sc, -List.map_append, -List.map_take, -List.map_map]) (by simp [slotsIn, objsIn, sget, keepS, AObj.inB, AV.inB, AV.inL, AV.inE, inE_map, inE_rows, inE_sc, -List.map_append, -List.map_take, -List.map_map]) (by simp [he0])⟩
  · skip
    have c1' := c1
    try simp only [qq] at c1'
    obtain rfl : k = p.scenes.length := by omega
    have hll0 : (linesL p).length = (rowsL p).length := by simp [linesL]
    have hrl2 : (rowsL p).length = p.scenes.length + 1 := rowsT_len (Nat.le_refl _)
    refine aw_exit (aw_seq (aw_region ?_))
    refine asr (lr _) rfl ?_
    refine asr (lr _) rfl ?_
    refine sq_nil (aw_seq (aw_seq (aw_region ?_)))
    refine sq_ev rfl (ev_mv (v := .own _ _ _) (lr _)) ?_
    refine sq_ev rfl (ev_len_map sl170 (less_own _ _ _)) ?_
    refine mvr (lr _) rfl ?_
    refine sq_nil (aw_block ?_)
    have hfull : rowsT p p.scenes.length = rowsL p := rfl
    rw [hfull]
    refine aw_loopk (ι := { i : Nat // i ≤ (rowsL p).length }) [38, 39] (fun i => [(40, I i.1), (6, S (outT (linesL p) i.1)), (7, I (ctT (linesL p) i.1))]) (fun H i => H) (fun i => (rowsL p).length - i.1) (⟨0, Nat.zero_le _⟩) ⟨lr _, lr _, lr _, lr _, lr _, trivial⟩ rfl ?_
    rintro ⟨i, hi⟩
    dsimp only [keepS, St.put, sget, slotsOf, List.map_cons, List.map_nil, List.cons_append, List.nil_append, List.length_cons, List.length_nil, Nat.reduceBEq, Nat.reduceAdd, cond_true, cond_false]
    have hol := outT_len (lineL_len sm) i (by omega)
    have hct := ctT_bd (by omega) (lineL_len sm) i (by omega)
    refine aw_seq (aw_region ?_)
    refine sq_ev rfl (ev_lss (lr _) (lr _)) ?_
    refine sq_nil (aw_seq ?_)
    refine aw_cond (lr _) (fun c3 => ?_) (fun c3 => ?_)
    · skip
      have c3' := c3
      try simp only [qq] at c3'
      have hi2 : i < (rowsL p).length := by omega
      have hi3 : i < (linesL p).length := by omega
      have hll := lineL_len sm _ (List.getElem_mem hi3)
      have hle : (linesL p)[i] = lineL p (rowsL p)[i] := by simp [linesL]
      refine aw_skip (aw_seq (aw_block (aw_seq (aw_region ?_))))
      refine mvr (lr _) rfl ?_
      refine sq_ev rfl (ev_index_map sl170 (less_own _ _ _) (lr _) rfl (by omega)) ?_
      refine sq_ev rfl (ev_load_i (lr _) ty175 rfl) ?_
      refine asr (lr _) rfl ?_
      refine sq_ev rfl (ev_as (v := rowV p _) (lr _)) ?_
      refine sq_nil (aw_seq (aw_region ?_))
      refine sq_ev rfl (ev_mv (v := rowV p _) (lr _)) ?_
      refine sq_ev rfl (ev_less (ev_call en149 (lr _) (nline_pure sm (List.getElem_mem hi2)) ⟨lr _, trivial⟩) (Less.eq (b := S (linesL p)[i]) (by rw [hle]))) ?_
      refine asr (lr _) rfl ?_
      refine sq_nil (aw_seq (aw_seq (aw_region ?_)))
      refine mvr (lr _) rfl ?_
      refine sq_ev rfl (ev_lenS Tryz.underlying9 (lr _)) ?_
      refine mvr (lr _) rfl ?_
      refine sq_nil (aw_block ?_)
      refine aw_loopk (ι := { k : Nat // k ≤ (linesL p)[i].length }) [6, 8, 10, 38, 39, 40, 48] (fun k => [(49, I k.1), (7, I (ctT (linesL p) i + csT ((i : Int) + 1) (linesL p)[i] k.1))]) (fun H k => H) (fun k => (linesL p)[i].length - k.1) (⟨0, Nat.zero_le _⟩) ⟨lr _, (by exact less_int (by simp [csT])), lr _, lr _, lr _, lr _, lr _, lr _, lr _, trivial⟩ rfl ?_
      rintro ⟨k, hk⟩
      dsimp only [keepS, St.put, sget, slotsOf, List.map_cons, List.map_nil, List.cons_append, List.nil_append, List.length_cons, List.length_nil, Nat.reduceBEq, Nat.reduceAdd, cond_true, cond_false]
      have hcs := csT_bd (m := (i : Int) + 1) ⟨by omega, by omega⟩ (linesL p)[i] k hk hll
      refine aw_seq (aw_region ?_)
      refine sq_ev rfl (ev_lss (lr _) (lr _)) ?_
      refine sq_nil (aw_seq ?_)
      refine aw_cond (lr _) (fun c4 => ?_) (fun c4 => ?_)
      · skip
        have c4' := c4
        try simp only [qq] at c4'
        have hk' : k < (linesL p)[i].length := by omega
        have htb := term_bd (b := (linesL p)[i][k]) (j := k) (m := (i : Int) + 1) (by omega) ⟨by omega, by omega⟩
        have hb8 : ((linesL p)[i][k]).toNat < 256 := UInt8.toNat_lt _
        have eK : ctT (linesL p) i + csT ((i : Int) + 1) (linesL p)[i] k + ((linesL p)[i][k].toNat : Int) * ((k : Int) + 1) * ((i : Int) + 1) = ctT (linesL p) i + csT ((i : Int) + 1) (linesL p)[i] (k + 1) := by rw [csT_succ _ hk']; omega
        refine aw_skip (aw_seq (aw_block (aw_seq (aw_region ?_))))
        refine mvr (lr _) rfl ?_
        refine asr (lr _) rfl ?_
        refine sq_nil (aw_region ?_)
        refine mvr (lr _) rfl ?_
        refine mvr (lr _) rfl ?_
        refine mvr (lr _) rfl ?_
        refine sq_ev rfl (ev_idxS Tryz.underlying9 (lr _) (lr _) rfl (by omega)) ?_
        refine sq_ev rfl (ev_conv_int Tryz.underlying5 Tryz.underlying3 (lr _) (wr (by omega) (by omega))) ?_
        refine mvr (lr _) rfl ?_
        refine sq_ev rfl (ev_add (lr _) (lr _) (wr (by omega) (by omega))) ?_
        refine sq_ev rfl (ev_mul (lr _) (lr _) (wr (by omega) (by omega))) ?_
        refine mvr (lr _) rfl ?_
        refine sq_ev rfl (ev_add (lr _) (lr _) (wr (by omega) (by omega))) ?_
        refine sq_ev rfl (ev_mul (lr _) (lr _) (wr (by omega) (by omega))) ?_
        refine sq_ev rfl (ev_add (lr _) (lr _) (wr (by omega) (by omega))) ?_
        refine asr (lr _) rfl ?_
        refine sq_nil (aw_region ?_)
        refine sq_ev rfl (ev_add (lr _) (lr _) (wr (by omega) (by omega))) ?_
        refine mvr (lr _) rfl ?_
        refine sq_nil ?_
        exact ⟨⟨k + 1, by omega⟩, by simp only; omega, Sub.slots ⟨lr _, (by exact less_int eK), lr _, lr _, lr _, lr _, lr _, lr _, lr _, trivial⟩⟩
      · skip
        have c4' := c4
        try simp only [qq] at c4'
        obtain rfl : k = (linesL p)[i].length := by omega
        have eO : S (outT (linesL p) i ++ ((linesL p)[i] ++ [10])) = S (outT (linesL p) (i + 1)) := by rw [outT_succ hi3]
        have eC : ctT (linesL p) i + csT ((i : Int) + 1) (linesL p)[i] (linesL p)[i].length = ctT (linesL p) (i + 1) := by rw [ctT_succ hi3]; rfl
        refine aw_exit (aw_region ?_)
        refine mvr (lr _) rfl ?_
        refine mvr (lr _) rfl ?_
        refine sq_ev rfl (ev_catS (lr _) (lr _) (by simp; omega)) ?_
        refine sq_ev rfl (ev_catS (lr _) (lr _) (by simp; omega)) ?_
        refine asr (lr _) rfl ?_
        refine sq_nil (aw_region ?_)
        refine sq_ev rfl (ev_add (lr _) (lr _) (wr (by omega) (by omega))) ?_
        refine mvr (lr _) rfl ?_
        refine sq_nil ?_
        exact ⟨⟨i + 1, by omega⟩, by simp only; omega, Sub.slots ⟨lr _, Less.eq eO, (by exact less_int eC), lr _, lr _, trivial⟩⟩
    · skip
      have c3' := c3
      try simp only [qq] at c3'
      obtain rfl : i = (rowsL p).length := by omega
      refine aw_exit (aw_seq (aw_region ?_))
      refine mvr (lr _) rfl ?_
      refine sq_ev rfl (ev_less (ev_rem (lr _) (lr _) (by decide)) (less_int (Int.tmod_eq_emod_of_nonneg (by omega)))) ?_
      refine asr (lr _) rfl ?_
      refine sq_nil (aw_seq ?_)
      have i1 := itoa_len (n := ctT (linesL p) (rowsL p).length % 181 / 100) ⟨by omega, by omega⟩
      have i2 := itoa_len (n := ctT (linesL p) (rowsL p).length % 181 / 10 % 10) ⟨by omega, by omega⟩
      have i3 := itoa_len (n := ctT (linesL p) (rowsL p).length % 181 % 10) ⟨by omega, by omega⟩
      refine aw_region ?_
      refine mvr (lr _) rfl ?_
      refine sq_ev rfl (ev_catS (lr _) (lr _) (by simp; omega)) ?_
      refine mvr (lr _) rfl ?_
      refine sq_ev rfl (ev_quo (q := ctT (linesL p) (rowsL p).length % 181 / 100) (lr _) (lr _) (by decide) (qd (by omega) (by omega) (by decide))) ?_
      refine sq_ev rfl (ev_call en150 (lr _) (nitoa_pure _ (by omega) (by omega)) ⟨lr _, trivial⟩) ?_
      refine sq_ev rfl (ev_catS (lr _) (lr _) (by simp; omega)) ?_
      refine mvr (lr _) rfl ?_
      refine sq_ev rfl (ev_quo (q := ctT (linesL p) (rowsL p).length % 181 / 10) (lr _) (lr _) (by decide) (qd (by omega) (by omega) (by decide))) ?_
      refine sq_ev rfl (ev_less (ev_rem (lr _) (lr _) (by decide)) (less_int (Int.tmod_eq_emod_of_nonneg (by omega)))) ?_
      refine sq_ev rfl (ev_call en150 (lr _) (nitoa_pure _ (by omega) (by omega)) ⟨lr _, trivial⟩) ?_
      refine sq_ev rfl (ev_catS (lr _) (lr _) (by simp; omega)) ?_
      refine mvr (lr _) rfl ?_
      refine sq_ev rfl (ev_less (ev_rem (lr _) (lr _) (by decide)) (less_int (Int.tmod_eq_emod_of_nonneg (by omega)))) ?_
      refine sq_ev rfl (ev_call en150 (lr _) (nitoa_pure _ (by omega) (by omega)) ⟨lr _, trivial⟩) ?_
      refine sq_ev rfl (ev_catS (lr _) (lr _) (by simp; omega)) ?_
      refine sq_ev rfl (ev_catS (lr _) (lr _) (by simp; omega)) ?_
      refine asr (lr _) rfl ?_
      refine sq_nil (aw_ret ?_)
      exact retQ_pure (v := .raw _) rfl rfl (Less.eq (by simp [sheetL, sealL, digs3, hll0]))


end Go.Proofs.YtjghdbdiejaacaaGreatDoor
