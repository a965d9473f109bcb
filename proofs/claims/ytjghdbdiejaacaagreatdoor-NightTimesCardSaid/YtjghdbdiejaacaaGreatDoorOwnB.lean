/-
  A part of the proof: conditions: none beyond each theorem's own.
-/
import Derived.Test.YtjghdbdiejaacaaGreatDoorOwnA
import Derived.Test.YtjghdbdiejaacaaGreatDoorLogicA
import Derived.Test.YtjghdbdiejaacaaGreatDoorLogicB
import Derived.Test.YtjghdbdiejaacaaGreatDoorLogicC
import Derived.Test.YtjghdbdiejaacaaGreatDoorLogicD
import Derived.Test.YtjghdbdiejaacaaGreatDoorSpecA
import Derived.Test.YtjghdbdiejaacaaGreatDoorShelf
import Derived.Test.YtjghdbdiejaacaaGreatDoorWalkA
import Derived.Test.YtjghdbdiejaacaaGreatDoorWalkB
import Derived.Test.YtjghdbdiejaacaaGreatDoorWalkC
import Derived.Test.YtjghdbdiejaacaaGreatDoorWalkD
import Derived.Test.YtjghdbdiejaacaaGreatDoorWalkE
import Derived.Test.YtjghdbdiejaacaaGreatDoorWalkF
import Derived.Test.YtjghdbdiejaacaaGreatDoorWalkG
import Derived.Test.YtjghdbdiejaacaaGreatDoorRow
set_option linter.all false
namespace Go.Proofs.YtjghdbdiejaacaaGreatDoor
open Go Go.Ab Ni
theorem bef_sum {p : Pl} {l : List Nat} {n : Nat} : lsum p (befP p l n) = lo p l (scn p n).part 0 ((n : Int) - 1) ∧ hsum p (befP p l n) = hi p l (scn p n).part 0 ((n : Int) - 1) := by
  have e : befP p l n = l.filter (inP p (scn p n).part 0 ((n : Int) - 1)) := by
    unfold befP ofP; rw [List.filter_filter]
    refine List.filter_congr fun x _ => ?_
    rw [Bool.eq_iff_iff]
    simp only [inPart, inP, Bool.and_eq_true, decide_eq_true_eq]
    constructor
    · rintro ⟨h1, h2⟩; exact ⟨⟨h2, by omega⟩, by omega⟩
    · rintro ⟨⟨h1, h2⟩, h3⟩; exact ⟨by omega, h1⟩
  exact ⟨by unfold lsum leasts lo ssum; rw [e], by unfold hsum mosts hi ssum; rw [e]⟩
theorem beh_sum {p : Pl} {l : List Nat} {n : Nat} (wp : WP p) (cv : CV p l) : lsum p (behP p l n) = lo p l (scn p n).part ((n : Int) + 1) 10 ∧ hsum p (behP p l n) = hi p l (scn p n).part ((n : Int) + 1) 10 := by
  have e : behP p l n = l.filter (inP p (scn p n).part ((n : Int) + 1) 10) := by
    unfold behP ofP; rw [List.filter_filter]
    refine List.filter_congr fun x hx => ?_
    have h1 := cv.rng x hx
    have h2 := wp.len
    rw [Bool.eq_iff_iff]
    simp only [inPart, inP, Bool.and_eq_true, decide_eq_true_eq]
    constructor
    · rintro ⟨h1, h2⟩; exact ⟨⟨h2, by omega⟩, by omega⟩
    · rintro ⟨⟨h1, h2⟩, h3⟩; exact ⟨by omega, h1⟩
  exact ⟨by unfold lsum leasts lo ssum; rw [e], by unfold hsum mosts hi ssum; rw [e]⟩
theorem lsum_cons (p : Pl) (x : Nat) (xs : List Nat) : lsum p (x :: xs) = (scn p x).least + lsum p xs ∧ hsum p (x :: xs) = (scn p x).most + hsum p xs := by simp [lsum, hsum, leasts, mosts]
theorem lsum_app (p : Pl) (xs ys : List Nat) : lsum p (xs ++ ys) = lsum p xs + lsum p ys ∧ hsum p (xs ++ ys) = hsum p xs + hsum p ys := by simp [lsum, hsum, leasts, mosts]
section
variable {p : Pl} {l : List Nat} {n k : Nat} (wp : WP p) (cv : CV p l) (inc : l.Pairwise (· < ·)) (hc : can p l = true) (hm : n ∈ l) (hk : (scn p n).part = (k : Int)) (hk3 : k < 3)
include wp cv inc hc hm hk hk3
theorem tm_met : Ni.Met (hrs p l) (tmV p n k l) (begC p n l) := by
  have h := beg_met wp cv hc hk3 (lo_le wp cv k 0 ((n : Int) - 1)) (lo_le wp cv k n 10) ((pl_lo wp cv k).trans (lo_split wp cv k n)) ((ph_hi wp cv k).trans (hi_split wp cv k n))
  have e : begC p n l = (max ((fw p l k).1 + lo p l k 0 ((n : Int) - 1)) ((bw p l (2 - k)).1 - hi p l k n 10), min ((fw p l k).2 + hi p l k 0 ((n : Int) - 1)) ((bw p l (2 - k)).2 - lo p l k n 10)) := by
    have b1 := bef_sum (p := p) (l := l) (n := n)
    have b2 := beh_sum (n := n) wp cv
    have b3 := lsum_cons p n (behP p l n)
    have b4 := lo_at wp cv inc hm
    have b5 := hi_at wp cv inc hm
    have hkt : (scn p n).part.toNat = k := by omega
    rw [hk] at b1 b2 b4 b5
    unfold begC
    rw [hkt, b1.1, b1.2, b3.1, b3.2, b2.1, b2.2, b4, b5]
  rw [e]; exact h
theorem ln_met : Ni.Met (hrs p l) (lnV p n k l) (longC p n l) := by
  have b4 := lo_at wp cv inc hm
  have b5 := hi_at wp cv inc hm
  rw [hk] at b4 b5
  have h := long_met wp cv hc hk3 (L := (scn p n).least) (H := (scn p n).most) (sL := lo p l k 0 ((n : Int) - 1) + lo p l k ((n : Int) + 1) 10) (sH := hi p l k 0 ((n : Int) - 1) + hi p l k ((n : Int) + 1) 10) (wp.lm _ (scn_mem (cv.rng n hm)))
    (by have := lo_le wp cv k 0 ((n : Int) - 1); have := lo_le wp cv k ((n : Int) + 1) 10; omega) (by rw [pl_lo wp cv k, lo_split wp cv k n, b4]; omega) (by rw [ph_hi wp cv k, hi_split wp cv k n, b5]; omega)
  have e : longC p n l = (max (scn p n).least ((bw p l (2 - k)).1 - (fw p l k).2 - (hi p l k 0 ((n : Int) - 1) + hi p l k ((n : Int) + 1) 10)), min (scn p n).most ((bw p l (2 - k)).2 - (fw p l k).1 - (lo p l k 0 ((n : Int) - 1) + lo p l k ((n : Int) + 1) 10))) := by
    have b1 := bef_sum (p := p) (l := l) (n := n)
    have b2 := beh_sum (n := n) wp cv
    have b3 := lsum_app p (befP p l n) (behP p l n)
    have hkt : (scn p n).part.toNat = k := by omega
    rw [hk] at b1 b2
    unfold longC
    rw [hkt, b3.1, b3.2, b1.1, b1.2, b2.1, b2.2]
  have e2 : lnV p n k l = fun h => (max (scn p n).least ((prH p h k).2 - (prH p h k).1 - (hi p l k 0 ((n : Int) - 1) + hi p l k ((n : Int) + 1) 10)), min (scn p n).most ((prH p h k).2 - (prH p h k).1 - (lo p l k 0 ((n : Int) - 1) + lo p l k ((n : Int) + 1) 10))) := by
    funext h; unfold lnV
    exact Prod.ext (by simp only; omega) (by simp only; omega)
  rw [e, e2]; exact h
end
theorem sel_mem {p : Pl} {n i : Nat} {l : List Nat} (h : l ∈ selT p n i) : l ∈ choicesC p ∧ n ∈ l := by
  obtain ⟨h1, h2⟩ := List.mem_filter.1 h
  exact ⟨List.mem_of_mem_take h1, by simpa using h2⟩
theorem tm_eq {p : Pl} (gp : GP p) (wp : WP p) {n k : Nat} (hk : (scn p n).part = (k : Int)) (hk3 : k < 3) (i : Nat) : wd (tmL p n (tmV p n k) i) = ovT p n (begC p n) i :=
  wd_flat fun l hl => by
    obtain ⟨h1, h2⟩ := sel_mem hl
    exact tm_met wp (choicesC_mem gp l h1) (choicesC_inc h1) (List.mem_filter.1 h1).2 h2 hk hk3
theorem ln_eq {p : Pl} (gp : GP p) (wp : WP p) {n k : Nat} (hk : (scn p n).part = (k : Int)) (hk3 : k < 3) (i : Nat) : wd (tmL p n (lnV p n k) i) = ovT p n (longC p n) i :=
  wd_flat fun l hl => by
    obtain ⟨h1, h2⟩ := sel_mem hl
    exact ln_met wp (choicesC_mem gp l h1) (choicesC_inc h1) (List.mem_filter.1 h1).2 h2 hk hk3
theorem tm_some {p : Pl} (gp : GP p) (wp : WP p) {n : Nat} (F : List Nat → Hr → Int × Int) (i : Nat) : decide (0 < (tmL p n F i).length) = decide (0 < (selT p n i).length) := by
  refine decide_eq_decide.2 ?_
  rw [List.length_pos_iff_exists_mem, List.length_pos_iff_exists_mem]
  constructor
  · rintro ⟨v, hv⟩
    obtain ⟨l, hl, _⟩ := List.mem_flatMap.1 hv
    exact ⟨l, hl⟩
  · rintro ⟨l, hl⟩
    obtain ⟨h1, _⟩ := sel_mem hl
    obtain ⟨a, b, c, f⟩ := (can_fit wp (choicesC_mem gp l h1)).1 (List.mem_filter.1 h1).2
    exact ⟨_, List.mem_flatMap.2 ⟨l, hl, List.mem_map.2 ⟨(a, b, c), (mem_hrs wp (choicesC_mem gp l h1)).2 f, rfl⟩⟩⟩
theorem en_eq {p : Pl} (gp : GP p) (wp : WP p) {k : Nat} (hk : k < 3) : wE p (hL p (choicesC p).length) k = endT p k (choicesC p).length := by
  unfold wE hL endT
  rw [List.take_length, List.map_flatMap]
  exact wd_flat fun l hl => end_met wp (choicesC_mem gp l hl) (List.mem_filter.1 hl).2 hk
theorem ens_eq {p : Pl} (gp : GP p) (wp : WP p) : [wE p (hL p (choicesC p).length) 0, wE p (hL p (choicesC p).length) 1, wE p (hL p (choicesC p).length) 2] = endsT p 3 := by
  rw [en_eq gp wp (by omega), en_eq gp wp (by omega), en_eq gp wp (by omega)]; rfl
theorem rE_pure {p : Pl} (gp : GP p) (wp : WP p) : APure Tryz.prog 34 [plan p] (spans (endsT p 3)) := by rw [← ens_eq gp wp]; exact rEnds_pure p gp wp
theorem spans_self (l : List (Int × Int)) (h : l.length ≤ 1000) : APure Tryz.prog 33 [spans l, spans l] (B true) := by have := rspans_pure l l (by omega) (by omega); simpa using this
theorem en_err {p : Pl} (hs : p.scenes.length ≤ 12) (h : ¬ askV p true = 0) : APure Tryz.prog 31 [plan p] (.tup [.sl 2 [], I (askV p true)]) := by
  have := nEnds_pure p (by omega); unfold endsAV at this; unfold askV at h ⊢
  by_cases hk : PlOK p = true
  · rw [if_pos hk] at this
    rw [if_pos ⟨hk, rfl⟩] at h ⊢
    by_cases hc : (choicesC p).length = 0
    · rw [if_pos hc] at this; rw [if_neg (by omega)]; exact this
    · rw [if_pos (by omega)] at h; exact absurd rfl h
  · rw [if_neg hk] at this; rw [if_neg (fun h => hk h.1)]; exact this
theorem en_ok {p : Pl} (hs : p.scenes.length ≤ 12) (hk : PlOK p = true) (hc : ¬ (choicesC p).length = 0) : APure Tryz.prog 31 [plan p] (.tup [spans (endsT p 3), I 0]) := by
  have := nEnds_pure p (by omega); unfold endsAV at this; rwa [if_pos hk, if_neg hc] at this
theorem ov_err {p : Pl} {n : Int} (F : Nat → List Nat → Int × Int) (h : ¬ askV p (isSc p n) = 0) : overR p n F = ((0, 0), askV p (isSc p n)) := by
  unfold overR; unfold askV at h ⊢
  by_cases hk : PlOK p = true ∧ isSc p n = true
  · rw [if_pos hk] at h ⊢; rw [if_pos hk]
    by_cases hc : (choicesC p).length = 0
    · rw [if_pos hc, if_neg (by omega)]
    · rw [if_pos (by omega)] at h; exact absurd rfl h
  · rw [if_neg hk, if_neg hk]
theorem t_pure {p : Pl} {n : Int} (hs : p.scenes.length ≤ 12) {a b e : Int} (h : overR p n (begC p) = ((a, b), e)) : APure Tryz.prog 29 [plan p, I n] (.tup [.agg [I a, I b], I e]) := by
  have := nTimes_pure p n (by omega); unfold overAV at this; rwa [h] at this
theorem l_pure {p : Pl} {n : Int} (hs : p.scenes.length ≤ 12) {a b e : Int} (h : overR p n (longC p) = ((a, b), e)) : APure Tryz.prog 30 [plan p, I n] (.tup [.agg [I a, I b], I e]) := by
  have := nLengths_pure p n (by omega); unfold overAV at this; rwa [h] at this
theorem ask_pure {p : Pl} {b : Bool} {e : Int} (hs : p.scenes.length ≤ 12) (h : askV p b = e) : APure Tryz.prog 32 [plan p, B b] (I e) := by subst h; exact rasked_pure p b (by omega)
theorem rt_pure {p : Pl} {n k : Nat} (gp : GP p) (wp : WP p) (hn : n < p.scenes.length) (hk : (scn p n).part = (k : Int)) (hk3 : k < 3) {b : Bool} (hb : decide (0 < (selT p n (choicesC p).length).length) = b) : APure Tryz.prog 36 [plan p, I n] (.tup [.agg [I (ovT p n (begC p n) (choicesC p).length).1, I (ovT p n (begC p n) (choicesC p).length).2], B b]) := by
  have := rTimes_pure p n k gp wp hn hk hk3
  rwa [tm_eq gp wp hk hk3, tm_some gp wp, hb] at this
theorem rl_pure {p : Pl} {n k : Nat} (gp : GP p) (wp : WP p) (hn : n < p.scenes.length) (hk : (scn p n).part = (k : Int)) (hk3 : k < 3) {b : Bool} (hb : decide (0 < (selT p n (choicesC p).length).length) = b) : APure Tryz.prog 37 [plan p, I n] (.tup [.agg [I (ovT p n (longC p n) (choicesC p).length).1, I (ovT p n (longC p n) (choicesC p).length).2], B b]) := by
  have := rLengths_pure p n k gp wp hn hk hk3
  rwa [ln_eq gp wp hk hk3, tm_some gp wp, hb] at this
set_option maxHeartbeats 4000000 in
theorem law4_long (p : Pl) (n : Int) (hs : ¬ p.scenes.length ≤ 12) : APure Tryz.prog 4 [plan p, I n] (B true) := by
  refine apure_of (rs := [.tmp 4]) Tryz.func4 rfl rfl (Nat.le_of_ble_eq_true rfl) (by simp [AV.pureL, AV.pureB, AV.pureE, pureE_map]) (rfl) fun e0 he0 => ?_
  refine aw_seq (aw_region ?_)
  refine sq_box rfl (lr _) rfl ?_
  refine asr (lr _) rfl ?_
  refine sq_nil (aw_seq (aw_seq (aw_region ?_)))
  refine sq_ev rfl (ev_load_agg (lr _) rfl ty27 rfl) ?_
  refine sq_ev rfl (ev_call en20 (lr _) (short_no hs) ⟨lr _, trivial⟩) ?_
  refine sq_ev rfl (ev_not (lr _)) ?_
  refine sq_nil ?_
  refine aw_cond (lr _) (fun c1 => ?_) (fun c1 => ?_)
  · skip
    have c1' := c1
    try simp only [qq] at c1'
    refine aw_seq (aw_region ?_)
    refine sq_ev rfl (ev_call en21 (lr _) (known_pure) trivial) ?_
    refine asr (lr _) rfl ?_
    refine sq_nil (aw_ret ?_)
    exact retQ_pure (v := .raw _) rfl rfl (lr _)
  · skip
    have c1' := c1
    try simp only [qq] at c1'
    first | exact absurd c1 (by decide) | (simp at c1; done) | (exfalso; simp at c1; omega)
set_option maxHeartbeats 4000000 in
theorem law4_err (p : Pl) (n : Int) (hs : p.scenes.length ≤ 12) (w1 w2 : Int) (hw2 : ¬ w2 = 0) (h1 : askV p true = w1) (h2 : askV p (isSc p n) = w2) (h29 : overR p n (begC p) = ((0, 0), w2)) (h30 : overR p n (longC p) = ((0, 0), w2)) (hw1 : ¬ w1 = 0) (h31 : APure Tryz.prog 31 [plan p] (.tup [.sl 2 [], I w1])) : APure Tryz.prog 4 [plan p, I n] (B true) := by
 refine apure_of (rs := [.tmp 4]) Tryz.func4 rfl rfl (Nat.le_of_ble_eq_true rfl) (by simp [AV.pureL, AV.pureB, AV.pureE, pureE_map]) (rfl) fun e0 he0 => ?_
 refine aw_seq (aw_region ?_)
 refine sq_box rfl (lr _) rfl ?_
 refine asr (lr _) rfl ?_
 refine sq_nil (aw_seq (aw_seq (aw_region ?_)))
 refine sq_ev rfl (ev_load_agg (lr _) rfl ty27 rfl) ?_
 refine sq_ev rfl (ev_call en20 (lr _) (short_yes hs) ⟨lr _, trivial⟩) ?_
 refine sq_ev rfl (ev_not (lr _)) ?_
 refine sq_nil ?_
 refine aw_cond (lr _) (fun c1 => ?_) (fun c1 => ?_)
 ·
  have c1' := c1
  try simp only [qq] at c1'
  first | exact absurd c1 (by decide) | (simp at c1; done) | (exfalso; simp at c1; omega)
 ·
  have c1' := c1
  try simp only [qq] at c1'
  refine aw_skip (aw_seq (aw_region ?_))
  refine sq_ev rfl (ev_load_agg (lr _) rfl ty27 rfl) ?_
  refine mvr (lr _) rfl ?_
  refine sq_ev rfl (ev_call en29 (lr _) (t_pure hs h29) ⟨lr _, lr _, trivial⟩) ?_
  refine sq_ev rfl (ev_mv (v := .tup _) (lr _)) ?_
  refine xtr rfl (lr _) rfl ?_
  refine xtr rfl (lr _) rfl ?_
  refine sq_alloc rfl z23 ?_
  refine sq_store rfl (lr _) (lr _) rfl rfl ty23 rfl rfl ?_
  refine asr (lr _) rfl ?_
  refine sq_nil (aw_seq (aw_region ?_))
  refine sq_ev rfl (ev_load_agg (lr _) rfl ty27 rfl) ?_
  refine mvr (lr _) rfl ?_
  refine sq_ev rfl (ev_call en30 (lr _) (l_pure hs h30) ⟨lr _, lr _, trivial⟩) ?_
  refine sq_ev rfl (ev_mv (v := .tup _) (lr _)) ?_
  refine xtr rfl (lr _) rfl ?_
  refine xtr rfl (lr _) rfl ?_
  refine sq_alloc rfl z23 ?_
  refine sq_store rfl (lr _) (lr _) rfl rfl ty23 rfl rfl ?_
  refine asr (lr _) rfl ?_
  refine sq_nil (aw_seq (aw_region ?_))
  refine sq_ev rfl (ev_load_agg (lr _) rfl ty27 rfl) ?_
  refine sq_ev rfl (ev_call en31 (lr _) (h31) ⟨lr _, trivial⟩) ?_
  refine sq_ev rfl (ev_mv (v := .tup _) (lr _)) ?_
  refine xtr rfl (lr _) rfl ?_
  refine xtr rfl (lr _) rfl ?_
  refine ass rfl (lr _) ?_
  refine asr (lr _) rfl ?_
  refine sq_nil (aw_seq (aw_seq (aw_region ?_)))
  refine sq_ev rfl (ev_load_agg (lr _) rfl ty27 rfl) ?_
  refine sq_ev rfl (ev_call en32 (lr _) (ask_pure hs h1) ⟨lr _, lr _, trivial⟩) ?_
  refine asr (lr _) rfl ?_
  refine sq_nil (aw_seq (aw_region ?_))
  refine mvr (lr _) rfl ?_
  refine sq_ev rfl (ev_neq (lr _) (lr _)) ?_
  refine sq_nil ?_
  refine aw_cond (lr _) (fun c2 => ?_) (fun c2 => ?_)
  ·
   have c2' := c2
   try simp only [qq] at c2'
   refine aw_seq (aw_region ?_)
   refine mvr (lr _) rfl ?_
   refine mvr (lr _) rfl ?_
   refine sq_ev rfl (ev_neq (lr _) (lr _)) ?_
   refine mvr (lr _) rfl ?_
   refine sq_split 45 (lr _) (fun g3 => ?_) (fun g3 => ?_)
   ·
    have g3' := g3
    try simp only [qq] at g3'
    first | exact absurd g3 (by decide) | (simp at g3; done) | (exfalso; simp at g3; omega)
   ·
    have g3' := g3
    try simp only [qq] at g3'
    refine sq_yes rfl rfl (less_b g3) rfl (ev_mv (v := .sl _ _) (lr _)) ?_
    refine sq_yes rfl rfl (less_b g3) rfl (ev_len sl43 (lr _) rfl) ?_
    refine sq_yes rfl rfl (less_b g3) rfl (ev_neq (lr _) (lr _)) ?_
    refine sq_ev rfl (ev_pickF (v := .raw _) (less_b g3) (lr _)) ?_
    refine sq_nil ?_
    refine aw_cond (lr _) (fun c4 => ?_) (fun c4 => ?_)
    ·
     have c4' := c4
     try simp only [qq] at c4'
     first | exact absurd c4 (by decide) | (simp at c4; done) | (exfalso; simp at c4; omega)
    ·
     have c4' := c4
     try simp only [qq] at c4'
     refine aw_skip (aw_seq (aw_seq ?_))
     refine aw_draw 6 mo (by kernel_rfl) ?_
     refine dr_ev rfl (ev_load_agg (lr _) rfl ty27 rfl) ?_
     refine dr_ev rfl (ev_load_agg (lr _) rfl ty27 rfl) ?_
     refine dr_ev rfl (ev_mv (v := .raw _) (lr _)) ?_
     refine dr_ev rfl (ev_call en35 (lr _) (scene_pure p n (by omega)) ⟨lr _, lr _, trivial⟩) ?_
     refine dr_ev rfl (ev_call en32 (lr _) (ask_pure hs h2) ⟨lr _, lr _, trivial⟩) ?_
     refine dr_ev rfl (ev_as (v := .raw _) (lr _)) ?_
     refine dr_end (sq_nil (aw_seq (aw_region ?_)))
     refine mvr (lr _) rfl ?_
     refine sq_ev rfl (ev_neq (lr _) (lr _)) ?_
     refine sq_nil ?_
     refine aw_cond (lr _) (fun c5 => ?_) (fun c5 => ?_)
     ·
      have c5' := c5
      try simp only [qq] at c5'
      refine aw_seq (aw_region ?_)
      refine mvr (lr _) rfl ?_
      refine mvr (lr _) rfl ?_
      refine sq_ev rfl (ev_eql (lr _) (lr _)) ?_
      refine mvr (lr _) rfl ?_
      refine sq_split 69 (lr _) (fun g6 => ?_) (fun g6 => ?_)
      ·
       have g6' := g6
       try simp only [qq] at g6'
       refine sq_yes rfl rfl (less_b g6) rfl (ev_load_agg (lr _) rfl ty23 rfl) ?_
       refine sq_yes rfl rfl (less_b g6) rfl (ev_build bi23 rfl) ?_
       refine sq_yes rfl rfl (less_b g6) rfl (ev_span_eql (lr _) (lr _)) ?_
       refine sq_ev rfl (ev_pickT (v := .raw _) (less_b g6) (lr _)) ?_
       refine mvr (lr _) rfl ?_
       refine sq_split 74 (lr _) (fun g7 => ?_) (fun g7 => ?_)
       ·
        have g7' := g7
        try simp only [qq] at g7'
        refine sq_yes rfl rfl (less_b g7) rfl (ev_mv (v := .raw _) (lr _)) ?_
        refine sq_yes rfl rfl (less_b g7) rfl (ev_mv (v := .raw _) (lr _)) ?_
        refine sq_yes rfl rfl (less_b g7) rfl (ev_eql (lr _) (lr _)) ?_
        refine sq_ev rfl (ev_pickT (v := .raw _) (less_b g7) (lr _)) ?_
        refine mvr (lr _) rfl ?_
        refine sq_split 79 (lr _) (fun g8 => ?_) (fun g8 => ?_)
        ·
         have g8' := g8
         try simp only [qq] at g8'
         refine sq_yes rfl rfl (less_b g8) rfl (ev_load_agg (lr _) rfl ty23 rfl) ?_
         refine sq_yes rfl rfl (less_b g8) rfl (ev_build bi23 rfl) ?_
         refine sq_yes rfl rfl (less_b g8) rfl (ev_span_eql (lr _) (lr _)) ?_
         refine sq_ev rfl (ev_pickT (v := .raw _) (less_b g8) (lr _)) ?_
         refine mvr (lr _) rfl ?_
         refine sq_split 84 (lr _) (fun g9 => ?_) (fun g9 => ?_)
         ·
          have g9' := g9
          try simp only [qq] at g9'
          refine sq_yes rfl rfl (less_b g9) rfl (ev_call en21 (lr _) (known_pure) trivial) ?_
          refine sq_ev rfl (ev_pickT (v := .raw _) (less_b g9) (lr _)) ?_
          refine asr (lr _) rfl ?_
          refine sq_nil (aw_ret ?_)
          exact retQ_pure (v := .raw _) rfl rfl (lr _)
         ·
          have g9' := g9
          try simp only [qq] at g9'
          first | exact absurd g9 (by decide) | (simp at g9; done) | (exfalso; simp at g9; omega)
        ·
         have g8' := g8
         try simp only [qq] at g8'
         first | exact absurd g8 (by decide) | (simp at g8; done) | (exfalso; simp at g8; omega)
       ·
        have g7' := g7
        try simp only [qq] at g7'
        first | exact absurd g7 (by decide) | (simp at g7; done) | (exfalso; simp at g7; omega)
      ·
       have g6' := g6
       try simp only [qq] at g6'
       first | exact absurd g6 (by decide) | (simp at g6; done) | (exfalso; simp at g6; omega)
     ·
      have c5' := c5
      try simp only [qq] at c5'
      first | exact absurd c5 (by decide) | (simp at c5; done) | (exfalso; simp at c5; omega)
  ·
   have c2' := c2
   try simp only [qq] at c2'
   first | exact absurd c2 (by decide) | (simp at c2; done) | (exfalso; simp at c2; omega)
set_option maxHeartbeats 4000000 in
theorem law4_scene (p : Pl) (n : Int) (hs : p.scenes.length ≤ 12) (w1 w2 : Int) (hw2 : ¬ w2 = 0) (h1 : askV p true = w1) (h2 : askV p (isSc p n) = w2) (h29 : overR p n (begC p) = ((0, 0), w2)) (h30 : overR p n (longC p) = ((0, 0), w2)) (hw1 : w1 = 0) (h31 : APure Tryz.prog 31 [plan p] (.tup [spans (endsT p 3), I 0])) (h34 : APure Tryz.prog 34 [plan p] (spans (endsT p 3))) : APure Tryz.prog 4 [plan p, I n] (B true) := by
 refine apure_of (rs := [.tmp 4]) Tryz.func4 rfl rfl (Nat.le_of_ble_eq_true rfl) (by simp [AV.pureL, AV.pureB, AV.pureE, pureE_map]) (rfl) fun e0 he0 => ?_
 subst hw1
 refine aw_seq (aw_region ?_)
 refine sq_box rfl (lr _) rfl ?_
 refine asr (lr _) rfl ?_
 refine sq_nil (aw_seq (aw_seq (aw_region ?_)))
 refine sq_ev rfl (ev_load_agg (lr _) rfl ty27 rfl) ?_
 refine sq_ev rfl (ev_call en20 (lr _) (short_yes hs) ⟨lr _, trivial⟩) ?_
 refine sq_ev rfl (ev_not (lr _)) ?_
 refine sq_nil ?_
 refine aw_cond (lr _) (fun c1 => ?_) (fun c1 => ?_)
 ·
  have c1' := c1
  try simp only [qq] at c1'
  first | exact absurd c1 (by decide) | (simp at c1; done) | (exfalso; simp at c1; omega)
 ·
  have c1' := c1
  try simp only [qq] at c1'
  refine aw_skip (aw_seq (aw_region ?_))
  refine sq_ev rfl (ev_load_agg (lr _) rfl ty27 rfl) ?_
  refine mvr (lr _) rfl ?_
  refine sq_ev rfl (ev_call en29 (lr _) (t_pure hs h29) ⟨lr _, lr _, trivial⟩) ?_
  refine sq_ev rfl (ev_mv (v := .tup _) (lr _)) ?_
  refine xtr rfl (lr _) rfl ?_
  refine xtr rfl (lr _) rfl ?_
  refine sq_alloc rfl z23 ?_
  refine sq_store rfl (lr _) (lr _) rfl rfl ty23 rfl rfl ?_
  refine asr (lr _) rfl ?_
  refine sq_nil (aw_seq (aw_region ?_))
  refine sq_ev rfl (ev_load_agg (lr _) rfl ty27 rfl) ?_
  refine mvr (lr _) rfl ?_
  refine sq_ev rfl (ev_call en30 (lr _) (l_pure hs h30) ⟨lr _, lr _, trivial⟩) ?_
  refine sq_ev rfl (ev_mv (v := .tup _) (lr _)) ?_
  refine xtr rfl (lr _) rfl ?_
  refine xtr rfl (lr _) rfl ?_
  refine sq_alloc rfl z23 ?_
  refine sq_store rfl (lr _) (lr _) rfl rfl ty23 rfl rfl ?_
  refine asr (lr _) rfl ?_
  refine sq_nil (aw_seq (aw_region ?_))
  refine sq_ev rfl (ev_load_agg (lr _) rfl ty27 rfl) ?_
  refine sq_ev rfl (ev_call en31 (lr _) (h31) ⟨lr _, trivial⟩) ?_
  refine sq_ev rfl (ev_mv (v := .tup _) (lr _)) ?_
  refine xtr rfl (lr _) rfl ?_
  refine xtr rfl (lr _) rfl ?_
  refine ass rfl (lr _) ?_
  refine asr (lr _) rfl ?_
  refine sq_nil (aw_seq (aw_seq (aw_region ?_)))
  refine sq_ev rfl (ev_load_agg (lr _) rfl ty27 rfl) ?_
  refine sq_ev rfl (ev_call en32 (lr _) (ask_pure hs h1) ⟨lr _, lr _, trivial⟩) ?_
  refine asr (lr _) rfl ?_
  refine sq_nil (aw_seq (aw_region ?_))
  refine mvr (lr _) rfl ?_
  refine sq_ev rfl (ev_neq (lr _) (lr _)) ?_
  refine sq_nil ?_
  refine aw_cond (lr _) (fun c2 => ?_) (fun c2 => ?_)
  ·
   have c2' := c2
   try simp only [qq] at c2'
   first | exact absurd c2 (by decide) | (simp at c2; done) | (exfalso; simp at c2; omega)
  ·
   have c2' := c2
   try simp only [qq] at c2'
   refine aw_seq (aw_region ?_)
   refine mvr (lr _) rfl ?_
   refine sq_ev rfl (ev_neq (lr _) (lr _)) ?_
   refine mvr (lr _) rfl ?_
   refine sq_split 52 (lr _) (fun g3 => ?_) (fun g3 => ?_)
   ·
    have g3' := g3
    try simp only [qq] at g3'
    first | exact absurd g3 (by decide) | (simp at g3; done) | (exfalso; simp at g3; omega)
   ·
    have g3' := g3
    try simp only [qq] at g3'
    refine sq_yes rfl rfl (less_b g3) rfl (ev_mv (v := .sl _ _) (lr _)) ?_
    refine sq_yes rfl rfl (less_b g3) rfl (ev_load_agg (lr _) rfl ty27 rfl) ?_
    refine sq_yes rfl rfl (less_b g3) rfl (ev_call en34 (lr _) (h34) ⟨lr _, trivial⟩) ?_
    refine sq_yes rfl rfl (less_b g3) rfl (ev_call en33 (lr _) (spans_self _ (by rw [endsT_len]; omega)) ⟨lr _, lr _, trivial⟩) ?_
    refine sq_yes rfl rfl (less_b g3) rfl (ev_not (lr _)) ?_
    refine sq_ev rfl (ev_pickF (v := .raw _) (less_b g3) (lr _)) ?_
    refine sq_nil ?_
    refine aw_cond (lr _) (fun c4 => ?_) (fun c4 => ?_)
    ·
     have c4' := c4
     try simp only [qq] at c4'
     first | exact absurd c4 (by decide) | (simp at c4; done) | (exfalso; simp at c4; omega)
    ·
     have c4' := c4
     try simp only [qq] at c4'
     refine aw_skip (aw_seq (aw_seq ?_))
     refine aw_draw 6 mo (by kernel_rfl) ?_
     refine dr_ev rfl (ev_load_agg (lr _) rfl ty27 rfl) ?_
     refine dr_ev rfl (ev_load_agg (lr _) rfl ty27 rfl) ?_
     refine dr_ev rfl (ev_mv (v := .raw _) (lr _)) ?_
     refine dr_ev rfl (ev_call en35 (lr _) (scene_pure p n (by omega)) ⟨lr _, lr _, trivial⟩) ?_
     refine dr_ev rfl (ev_call en32 (lr _) (ask_pure hs h2) ⟨lr _, lr _, trivial⟩) ?_
     refine dr_ev rfl (ev_as (v := .raw _) (lr _)) ?_
     refine dr_end (sq_nil (aw_seq (aw_region ?_)))
     refine mvr (lr _) rfl ?_
     refine sq_ev rfl (ev_neq (lr _) (lr _)) ?_
     refine sq_nil ?_
     refine aw_cond (lr _) (fun c5 => ?_) (fun c5 => ?_)
     ·
      have c5' := c5
      try simp only [qq] at c5'
      refine aw_seq (aw_region ?_)
      refine mvr (lr _) rfl ?_
      refine mvr (lr _) rfl ?_
      refine sq_ev rfl (ev_eql (lr _) (lr _)) ?_
      refine mvr (lr _) rfl ?_
      refine sq_split 69 (lr _) (fun g6 => ?_) (fun g6 => ?_)
      ·
       have g6' := g6
       try simp only [qq] at g6'
       refine sq_yes rfl rfl (less_b g6) rfl (ev_load_agg (lr _) rfl ty23 rfl) ?_
       refine sq_yes rfl rfl (less_b g6) rfl (ev_build bi23 rfl) ?_
       refine sq_yes rfl rfl (less_b g6) rfl (ev_span_eql (lr _) (lr _)) ?_
       refine sq_ev rfl (ev_pickT (v := .raw _) (less_b g6) (lr _)) ?_
       refine mvr (lr _) rfl ?_
       refine sq_split 74 (lr _) (fun g7 => ?_) (fun g7 => ?_)
       ·
        have g7' := g7
        try simp only [qq] at g7'
        refine sq_yes rfl rfl (less_b g7) rfl (ev_mv (v := .raw _) (lr _)) ?_
        refine sq_yes rfl rfl (less_b g7) rfl (ev_mv (v := .raw _) (lr _)) ?_
        refine sq_yes rfl rfl (less_b g7) rfl (ev_eql (lr _) (lr _)) ?_
        refine sq_ev rfl (ev_pickT (v := .raw _) (less_b g7) (lr _)) ?_
        refine mvr (lr _) rfl ?_
        refine sq_split 79 (lr _) (fun g8 => ?_) (fun g8 => ?_)
        ·
         have g8' := g8
         try simp only [qq] at g8'
         refine sq_yes rfl rfl (less_b g8) rfl (ev_load_agg (lr _) rfl ty23 rfl) ?_
         refine sq_yes rfl rfl (less_b g8) rfl (ev_build bi23 rfl) ?_
         refine sq_yes rfl rfl (less_b g8) rfl (ev_span_eql (lr _) (lr _)) ?_
         refine sq_ev rfl (ev_pickT (v := .raw _) (less_b g8) (lr _)) ?_
         refine mvr (lr _) rfl ?_
         refine sq_split 84 (lr _) (fun g9 => ?_) (fun g9 => ?_)
         ·
          have g9' := g9
          try simp only [qq] at g9'
          refine sq_yes rfl rfl (less_b g9) rfl (ev_call en21 (lr _) (known_pure) trivial) ?_
          refine sq_ev rfl (ev_pickT (v := .raw _) (less_b g9) (lr _)) ?_
          refine asr (lr _) rfl ?_
          refine sq_nil (aw_ret ?_)
          exact retQ_pure (v := .raw _) rfl rfl (lr _)
         ·
          have g9' := g9
          try simp only [qq] at g9'
          first | exact absurd g9 (by decide) | (simp at g9; done) | (exfalso; simp at g9; omega)
        ·
         have g8' := g8
         try simp only [qq] at g8'
         first | exact absurd g8 (by decide) | (simp at g8; done) | (exfalso; simp at g8; omega)
       ·
        have g7' := g7
        try simp only [qq] at g7'
        first | exact absurd g7 (by decide) | (simp at g7; done) | (exfalso; simp at g7; omega)
      ·
       have g6' := g6
       try simp only [qq] at g6'
       first | exact absurd g6 (by decide) | (simp at g6; done) | (exfalso; simp at g6; omega)
     ·
      have c5' := c5
      try simp only [qq] at c5'
      first | exact absurd c5 (by decide) | (simp at c5; done) | (exfalso; simp at c5; omega)
set_option maxHeartbeats 4000000 in
theorem law4_none (p : Pl) (n : Nat) (hs : p.scenes.length ≤ 12) (h1 : askV p true = 0) (h2 : askV p (isSc p n) = 0) (h31 : APure Tryz.prog 31 [plan p] (.tup [spans (endsT p 3), I 0])) (h34 : APure Tryz.prog 34 [plan p] (spans (endsT p 3))) (a b c d e : Int) (h29 : overR p n (begC p) = ((a, b), e)) (h30 : overR p n (longC p) = ((c, d), e)) (x y u v : Int) (h36 : APure Tryz.prog 36 [plan p, I n] (.tup [.agg [I x, I y], B false])) (h37 : APure Tryz.prog 37 [plan p, I n] (.tup [.agg [I u, I v], B false])) (he : e = 5) (ha : a = 0) (hb : b = 0) (hc : c = 0) (hd : d = 0) : APure Tryz.prog 4 [plan p, I n] (B true) := by
 refine apure_of (rs := [.tmp 4]) Tryz.func4 rfl rfl (Nat.le_of_ble_eq_true rfl) (by simp [AV.pureL, AV.pureB, AV.pureE, pureE_map]) (rfl) fun e0 he0 => ?_
 subst he ha hb hc hd
 refine aw_seq (aw_region ?_)
 refine sq_box rfl (lr _) rfl ?_
 refine asr (lr _) rfl ?_
 refine sq_nil (aw_seq (aw_seq (aw_region ?_)))
 refine sq_ev rfl (ev_load_agg (lr _) rfl ty27 rfl) ?_
 refine sq_ev rfl (ev_call en20 (lr _) (short_yes hs) ⟨lr _, trivial⟩) ?_
 refine sq_ev rfl (ev_not (lr _)) ?_
 refine sq_nil ?_
 refine aw_cond (lr _) (fun c1 => ?_) (fun c1 => ?_)
 ·
  have c1' := c1
  try simp only [qq] at c1'
  first | exact absurd c1 (by decide) | (simp at c1; done) | (exfalso; simp at c1; omega)
 ·
  have c1' := c1
  try simp only [qq] at c1'
  refine aw_skip (aw_seq (aw_region ?_))
  refine sq_ev rfl (ev_load_agg (lr _) rfl ty27 rfl) ?_
  refine mvr (lr _) rfl ?_
  refine sq_ev rfl (ev_call en29 (lr _) (t_pure hs h29) ⟨lr _, lr _, trivial⟩) ?_
  refine sq_ev rfl (ev_mv (v := .tup _) (lr _)) ?_
  refine xtr rfl (lr _) rfl ?_
  refine xtr rfl (lr _) rfl ?_
  refine sq_alloc rfl z23 ?_
  refine sq_store rfl (lr _) (lr _) rfl rfl ty23 rfl rfl ?_
  refine asr (lr _) rfl ?_
  refine sq_nil (aw_seq (aw_region ?_))
  refine sq_ev rfl (ev_load_agg (lr _) rfl ty27 rfl) ?_
  refine mvr (lr _) rfl ?_
  refine sq_ev rfl (ev_call en30 (lr _) (l_pure hs h30) ⟨lr _, lr _, trivial⟩) ?_
  refine sq_ev rfl (ev_mv (v := .tup _) (lr _)) ?_
  refine xtr rfl (lr _) rfl ?_
  refine xtr rfl (lr _) rfl ?_
  refine sq_alloc rfl z23 ?_
  refine sq_store rfl (lr _) (lr _) rfl rfl ty23 rfl rfl ?_
  refine asr (lr _) rfl ?_
  refine sq_nil (aw_seq (aw_region ?_))
  refine sq_ev rfl (ev_load_agg (lr _) rfl ty27 rfl) ?_
  refine sq_ev rfl (ev_call en31 (lr _) (h31) ⟨lr _, trivial⟩) ?_
  refine sq_ev rfl (ev_mv (v := .tup _) (lr _)) ?_
  refine xtr rfl (lr _) rfl ?_
  refine xtr rfl (lr _) rfl ?_
  refine ass rfl (lr _) ?_
  refine asr (lr _) rfl ?_
  refine sq_nil (aw_seq (aw_seq (aw_region ?_)))
  refine sq_ev rfl (ev_load_agg (lr _) rfl ty27 rfl) ?_
  refine sq_ev rfl (ev_call en32 (lr _) (ask_pure hs h1) ⟨lr _, lr _, trivial⟩) ?_
  refine asr (lr _) rfl ?_
  refine sq_nil (aw_seq (aw_region ?_))
  refine mvr (lr _) rfl ?_
  refine sq_ev rfl (ev_neq (lr _) (lr _)) ?_
  refine sq_nil ?_
  refine aw_cond (lr _) (fun c2 => ?_) (fun c2 => ?_)
  ·
   have c2' := c2
   try simp only [qq] at c2'
   first | exact absurd c2 (by decide) | (simp at c2; done) | (exfalso; simp at c2; omega)
  ·
   have c2' := c2
   try simp only [qq] at c2'
   refine aw_seq (aw_region ?_)
   refine mvr (lr _) rfl ?_
   refine sq_ev rfl (ev_neq (lr _) (lr _)) ?_
   refine mvr (lr _) rfl ?_
   refine sq_split 52 (lr _) (fun g3 => ?_) (fun g3 => ?_)
   ·
    have g3' := g3
    try simp only [qq] at g3'
    first | exact absurd g3 (by decide) | (simp at g3; done) | (exfalso; simp at g3; omega)
   ·
    have g3' := g3
    try simp only [qq] at g3'
    refine sq_yes rfl rfl (less_b g3) rfl (ev_mv (v := .sl _ _) (lr _)) ?_
    refine sq_yes rfl rfl (less_b g3) rfl (ev_load_agg (lr _) rfl ty27 rfl) ?_
    refine sq_yes rfl rfl (less_b g3) rfl (ev_call en34 (lr _) (h34) ⟨lr _, trivial⟩) ?_
    refine sq_yes rfl rfl (less_b g3) rfl (ev_call en33 (lr _) (spans_self _ (by rw [endsT_len]; omega)) ⟨lr _, lr _, trivial⟩) ?_
    refine sq_yes rfl rfl (less_b g3) rfl (ev_not (lr _)) ?_
    refine sq_ev rfl (ev_pickF (v := .raw _) (less_b g3) (lr _)) ?_
    refine sq_nil ?_
    refine aw_cond (lr _) (fun c4 => ?_) (fun c4 => ?_)
    ·
     have c4' := c4
     try simp only [qq] at c4'
     first | exact absurd c4 (by decide) | (simp at c4; done) | (exfalso; simp at c4; omega)
    ·
     have c4' := c4
     try simp only [qq] at c4'
     refine aw_skip (aw_seq (aw_seq ?_))
     refine aw_draw 6 mo (by kernel_rfl) ?_
     refine dr_ev rfl (ev_load_agg (lr _) rfl ty27 rfl) ?_
     refine dr_ev rfl (ev_load_agg (lr _) rfl ty27 rfl) ?_
     refine dr_ev rfl (ev_mv (v := .raw _) (lr _)) ?_
     refine dr_ev rfl (ev_call en35 (lr _) (scene_pure p n (by omega)) ⟨lr _, lr _, trivial⟩) ?_
     refine dr_ev rfl (ev_call en32 (lr _) (ask_pure hs h2) ⟨lr _, lr _, trivial⟩) ?_
     refine dr_ev rfl (ev_as (v := .raw _) (lr _)) ?_
     refine dr_end (sq_nil (aw_seq (aw_region ?_)))
     refine mvr (lr _) rfl ?_
     refine sq_ev rfl (ev_neq (lr _) (lr _)) ?_
     refine sq_nil ?_
     refine aw_cond (lr _) (fun c5 => ?_) (fun c5 => ?_)
     ·
      have c5' := c5
      try simp only [qq] at c5'
      first | exact absurd c5 (by decide) | (simp at c5; done) | (exfalso; simp at c5; omega)
     ·
      have c5' := c5
      try simp only [qq] at c5'
      refine aw_skip (aw_seq (aw_region ?_))
      refine sq_ev rfl (ev_load_agg (lr _) rfl ty27 rfl) ?_
      refine mvr (lr _) rfl ?_
      refine sq_ev rfl (ev_call en36 (lr _) (h36) ⟨lr _, lr _, trivial⟩) ?_
      refine sq_ev rfl (ev_mv (v := .tup _) (lr _)) ?_
      refine xtr rfl (lr _) rfl ?_
      refine xtr rfl (lr _) rfl ?_
      refine sq_alloc rfl z23 ?_
      refine sq_store rfl (lr _) (lr _) rfl rfl ty23 rfl rfl ?_
      refine asr (lr _) rfl ?_
      refine sq_nil (aw_seq (aw_region ?_))
      refine sq_ev rfl (ev_load_agg (lr _) rfl ty27 rfl) ?_
      refine mvr (lr _) rfl ?_
      refine sq_ev rfl (ev_call en37 (lr _) (h37) ⟨lr _, lr _, trivial⟩) ?_
      refine sq_ev rfl (ev_mv (v := .tup _) (lr _)) ?_
      refine xtr rfl (lr _) rfl ?_
      refine xtr rfl (lr _) rfl ?_
      refine sq_alloc rfl z23 ?_
      refine sq_store rfl (lr _) (lr _) rfl rfl ty23 rfl rfl ?_
      refine asr (lr _) rfl ?_
      refine sq_nil (aw_seq (aw_seq (aw_region ?_)))
      refine mvr (lr _) rfl ?_
      refine sq_ev rfl (ev_not (lr _)) ?_
      refine sq_nil ?_
      refine aw_cond (lr _) (fun c6 => ?_) (fun c6 => ?_)
      ·
       have c6' := c6
       try simp only [qq] at c6'
       refine aw_seq (aw_region ?_)
       refine mvr (lr _) rfl ?_
       refine sq_ev rfl (ev_eql (lr _) (lr _)) ?_
       refine mvr (lr _) rfl ?_
       refine sq_split 103 (lr _) (fun g7 => ?_) (fun g7 => ?_)
       ·
        have g7' := g7
        try simp only [qq] at g7'
        refine sq_yes rfl rfl (less_b g7) rfl (ev_load_agg (lr _) rfl ty23 rfl) ?_
        refine sq_yes rfl rfl (less_b g7) rfl (ev_build bi23 rfl) ?_
        refine sq_yes rfl rfl (less_b g7) rfl (ev_span_eql (lr _) (lr _)) ?_
        refine sq_ev rfl (ev_pickT (v := .raw _) (less_b g7) (lr _)) ?_
        refine mvr (lr _) rfl ?_
        refine sq_split 108 (lr _) (fun g8 => ?_) (fun g8 => ?_)
        ·
         have g8' := g8
         try simp only [qq] at g8'
         refine sq_yes rfl rfl (less_b g8) rfl (ev_mv (v := .raw _) (lr _)) ?_
         refine sq_yes rfl rfl (less_b g8) rfl (ev_eql (lr _) (lr _)) ?_
         refine sq_ev rfl (ev_pickT (v := .raw _) (less_b g8) (lr _)) ?_
         refine mvr (lr _) rfl ?_
         refine sq_split 112 (lr _) (fun g9 => ?_) (fun g9 => ?_)
         ·
          have g9' := g9
          try simp only [qq] at g9'
          refine sq_yes rfl rfl (less_b g9) rfl (ev_load_agg (lr _) rfl ty23 rfl) ?_
          refine sq_yes rfl rfl (less_b g9) rfl (ev_build bi23 rfl) ?_
          refine sq_yes rfl rfl (less_b g9) rfl (ev_span_eql (lr _) (lr _)) ?_
          refine sq_ev rfl (ev_pickT (v := .raw _) (less_b g9) (lr _)) ?_
          refine mvr (lr _) rfl ?_
          refine sq_split 117 (lr _) (fun g10 => ?_) (fun g10 => ?_)
          ·
           have g10' := g10
           try simp only [qq] at g10'
           refine sq_yes rfl rfl (less_b g10) rfl (ev_call en21 (lr _) (known_pure) trivial) ?_
           refine sq_ev rfl (ev_pickT (v := .raw _) (less_b g10) (lr _)) ?_
           refine asr (lr _) rfl ?_
           refine sq_nil (aw_ret ?_)
           exact retQ_pure (v := .raw _) rfl rfl (lr _)
          ·
           have g10' := g10
           try simp only [qq] at g10'
           first | exact absurd g10 (by decide) | (simp at g10; done) | (exfalso; simp at g10; omega)
         ·
          have g9' := g9
          try simp only [qq] at g9'
          first | exact absurd g9 (by decide) | (simp at g9; done) | (exfalso; simp at g9; omega)
        ·
         have g8' := g8
         try simp only [qq] at g8'
         first | exact absurd g8 (by decide) | (simp at g8; done) | (exfalso; simp at g8; omega)
       ·
        have g7' := g7
        try simp only [qq] at g7'
        first | exact absurd g7 (by decide) | (simp at g7; done) | (exfalso; simp at g7; omega)
      ·
       have c6' := c6
       try simp only [qq] at c6'
       first | exact absurd c6 (by decide) | (simp at c6; done) | (exfalso; simp at c6; omega)
set_option maxHeartbeats 4000000 in
theorem law4_yes (p : Pl) (n : Nat) (hs : p.scenes.length ≤ 12) (h1 : askV p true = 0) (h2 : askV p (isSc p n) = 0) (h31 : APure Tryz.prog 31 [plan p] (.tup [spans (endsT p 3), I 0])) (h34 : APure Tryz.prog 34 [plan p] (spans (endsT p 3))) (a b c d e : Int) (h29 : overR p n (begC p) = ((a, b), e)) (h30 : overR p n (longC p) = ((c, d), e)) (h36 : APure Tryz.prog 36 [plan p, I n] (.tup [.agg [I a, I b], B true])) (h37 : APure Tryz.prog 37 [plan p, I n] (.tup [.agg [I c, I d], B true])) (he : e = 0) : APure Tryz.prog 4 [plan p, I n] (B true) := by
 refine apure_of (rs := [.tmp 4]) Tryz.func4 rfl rfl (Nat.le_of_ble_eq_true rfl) (by simp [AV.pureL, AV.pureB, AV.pureE, pureE_map]) (rfl) fun e0 he0 => ?_
 subst he
 refine aw_seq (aw_region ?_)
 refine sq_box rfl (lr _) rfl ?_
 refine asr (lr _) rfl ?_
 refine sq_nil (aw_seq (aw_seq (aw_region ?_)))
 refine sq_ev rfl (ev_load_agg (lr _) rfl ty27 rfl) ?_
 refine sq_ev rfl (ev_call en20 (lr _) (short_yes hs) ⟨lr _, trivial⟩) ?_
 refine sq_ev rfl (ev_not (lr _)) ?_
 refine sq_nil ?_
 refine aw_cond (lr _) (fun c1 => ?_) (fun c1 => ?_)
 ·
  have c1' := c1
  try simp only [qq] at c1'
  first | exact absurd c1 (by decide) | (simp at c1; done) | (exfalso; simp at c1; omega)
 ·
  have c1' := c1
  try simp only [qq] at c1'
  refine aw_skip (aw_seq (aw_region ?_))
  refine sq_ev rfl (ev_load_agg (lr _) rfl ty27 rfl) ?_
  refine mvr (lr _) rfl ?_
  refine sq_ev rfl (ev_call en29 (lr _) (t_pure hs h29) ⟨lr _, lr _, trivial⟩) ?_
  refine sq_ev rfl (ev_mv (v := .tup _) (lr _)) ?_
  refine xtr rfl (lr _) rfl ?_
  refine xtr rfl (lr _) rfl ?_
  refine sq_alloc rfl z23 ?_
  refine sq_store rfl (lr _) (lr _) rfl rfl ty23 rfl rfl ?_
  refine asr (lr _) rfl ?_
  refine sq_nil (aw_seq (aw_region ?_))
  refine sq_ev rfl (ev_load_agg (lr _) rfl ty27 rfl) ?_
  refine mvr (lr _) rfl ?_
  refine sq_ev rfl (ev_call en30 (lr _) (l_pure hs h30) ⟨lr _, lr _, trivial⟩) ?_
  refine sq_ev rfl (ev_mv (v := .tup _) (lr _)) ?_
  refine xtr rfl (lr _) rfl ?_
  refine xtr rfl (lr _) rfl ?_
  refine sq_alloc rfl z23 ?_
  refine sq_store rfl (lr _) (lr _) rfl rfl ty23 rfl rfl ?_
  refine asr (lr _) rfl ?_
  refine sq_nil (aw_seq (aw_region ?_))
  refine sq_ev rfl (ev_load_agg (lr _) rfl ty27 rfl) ?_
  refine sq_ev rfl (ev_call en31 (lr _) (h31) ⟨lr _, trivial⟩) ?_
  refine sq_ev rfl (ev_mv (v := .tup _) (lr _)) ?_
  refine xtr rfl (lr _) rfl ?_
  refine xtr rfl (lr _) rfl ?_
  refine ass rfl (lr _) ?_
  refine asr (lr _) rfl ?_
  refine sq_nil (aw_seq (aw_seq (aw_region ?_)))
  refine sq_ev rfl (ev_load_agg (lr _) rfl ty27 rfl) ?_
  refine sq_ev rfl (ev_call en32 (lr _) (ask_pure hs h1) ⟨lr _, lr _, trivial⟩) ?_
  refine asr (lr _) rfl ?_
  refine sq_nil (aw_seq (aw_region ?_))
  refine mvr (lr _) rfl ?_
  refine sq_ev rfl (ev_neq (lr _) (lr _)) ?_
  refine sq_nil ?_
  refine aw_cond (lr _) (fun c2 => ?_) (fun c2 => ?_)
  ·
   have c2' := c2
   try simp only [qq] at c2'
   first | exact absurd c2 (by decide) | (simp at c2; done) | (exfalso; simp at c2; omega)
  ·
   have c2' := c2
   try simp only [qq] at c2'
   refine aw_seq (aw_region ?_)
   refine mvr (lr _) rfl ?_
   refine sq_ev rfl (ev_neq (lr _) (lr _)) ?_
   refine mvr (lr _) rfl ?_
   refine sq_split 52 (lr _) (fun g3 => ?_) (fun g3 => ?_)
   ·
    have g3' := g3
    try simp only [qq] at g3'
    first | exact absurd g3 (by decide) | (simp at g3; done) | (exfalso; simp at g3; omega)
   ·
    have g3' := g3
    try simp only [qq] at g3'
    refine sq_yes rfl rfl (less_b g3) rfl (ev_mv (v := .sl _ _) (lr _)) ?_
    refine sq_yes rfl rfl (less_b g3) rfl (ev_load_agg (lr _) rfl ty27 rfl) ?_
    refine sq_yes rfl rfl (less_b g3) rfl (ev_call en34 (lr _) (h34) ⟨lr _, trivial⟩) ?_
    refine sq_yes rfl rfl (less_b g3) rfl (ev_call en33 (lr _) (spans_self _ (by rw [endsT_len]; omega)) ⟨lr _, lr _, trivial⟩) ?_
    refine sq_yes rfl rfl (less_b g3) rfl (ev_not (lr _)) ?_
    refine sq_ev rfl (ev_pickF (v := .raw _) (less_b g3) (lr _)) ?_
    refine sq_nil ?_
    refine aw_cond (lr _) (fun c4 => ?_) (fun c4 => ?_)
    ·
     have c4' := c4
     try simp only [qq] at c4'
     first | exact absurd c4 (by decide) | (simp at c4; done) | (exfalso; simp at c4; omega)
    ·
     have c4' := c4
     try simp only [qq] at c4'
     refine aw_skip (aw_seq (aw_seq ?_))
     refine aw_draw 6 mo (by kernel_rfl) ?_
     refine dr_ev rfl (ev_load_agg (lr _) rfl ty27 rfl) ?_
     refine dr_ev rfl (ev_load_agg (lr _) rfl ty27 rfl) ?_
     refine dr_ev rfl (ev_mv (v := .raw _) (lr _)) ?_
     refine dr_ev rfl (ev_call en35 (lr _) (scene_pure p n (by omega)) ⟨lr _, lr _, trivial⟩) ?_
     refine dr_ev rfl (ev_call en32 (lr _) (ask_pure hs h2) ⟨lr _, lr _, trivial⟩) ?_
     refine dr_ev rfl (ev_as (v := .raw _) (lr _)) ?_
     refine dr_end (sq_nil (aw_seq (aw_region ?_)))
     refine mvr (lr _) rfl ?_
     refine sq_ev rfl (ev_neq (lr _) (lr _)) ?_
     refine sq_nil ?_
     refine aw_cond (lr _) (fun c5 => ?_) (fun c5 => ?_)
     ·
      have c5' := c5
      try simp only [qq] at c5'
      first | exact absurd c5 (by decide) | (simp at c5; done) | (exfalso; simp at c5; omega)
     ·
      have c5' := c5
      try simp only [qq] at c5'
      refine aw_skip (aw_seq (aw_region ?_))
      refine sq_ev rfl (ev_load_agg (lr _) rfl ty27 rfl) ?_
      refine mvr (lr _) rfl ?_
      refine sq_ev rfl (ev_call en36 (lr _) (h36) ⟨lr _, lr _, trivial⟩) ?_
      refine sq_ev rfl (ev_mv (v := .tup _) (lr _)) ?_
      refine xtr rfl (lr _) rfl ?_
      refine xtr rfl (lr _) rfl ?_
      refine sq_alloc rfl z23 ?_
      refine sq_store rfl (lr _) (lr _) rfl rfl ty23 rfl rfl ?_
      refine asr (lr _) rfl ?_
      refine sq_nil (aw_seq (aw_region ?_))
      refine sq_ev rfl (ev_load_agg (lr _) rfl ty27 rfl) ?_
      refine mvr (lr _) rfl ?_
      refine sq_ev rfl (ev_call en37 (lr _) (h37) ⟨lr _, lr _, trivial⟩) ?_
      refine sq_ev rfl (ev_mv (v := .tup _) (lr _)) ?_
      refine xtr rfl (lr _) rfl ?_
      refine xtr rfl (lr _) rfl ?_
      refine sq_alloc rfl z23 ?_
      refine sq_store rfl (lr _) (lr _) rfl rfl ty23 rfl rfl ?_
      refine asr (lr _) rfl ?_
      refine sq_nil (aw_seq (aw_seq (aw_region ?_)))
      refine mvr (lr _) rfl ?_
      refine sq_ev rfl (ev_not (lr _)) ?_
      refine sq_nil ?_
      refine aw_cond (lr _) (fun c6 => ?_) (fun c6 => ?_)
      ·
       have c6' := c6
       try simp only [qq] at c6'
       first | exact absurd c6 (by decide) | (simp at c6; done) | (exfalso; simp at c6; omega)
      ·
       have c6' := c6
       try simp only [qq] at c6'
       refine aw_skip (aw_seq (aw_region ?_))
       refine mvr (lr _) rfl ?_
       refine sq_ev rfl (ev_eql (lr _) (lr _)) ?_
       refine mvr (lr _) rfl ?_
       refine sq_split 122 (lr _) (fun g7 => ?_) (fun g7 => ?_)
       ·
        have g7' := g7
        try simp only [qq] at g7'
        refine sq_yes rfl rfl (less_b g7) rfl (ev_load_agg (lr _) rfl ty23 rfl) ?_
        refine sq_yes rfl rfl (less_b g7) rfl (ev_load_agg (lr _) rfl ty23 rfl) ?_
        refine sq_yes rfl rfl (less_b g7) rfl (ev_span_eql (lr _) (lr _)) ?_
        refine sq_ev rfl (ev_pickT (v := .raw _) (less_b g7) (lr _)) ?_
        refine mvr (lr _) rfl ?_
        refine sq_split 127 (lr _) (fun g8 => ?_) (fun g8 => ?_)
        ·
         have g8' := g8
         try simp only [qq] at g8'
         refine sq_yes rfl rfl (less_b g8) rfl (ev_mv (v := .raw _) (lr _)) ?_
         refine sq_yes rfl rfl (less_b g8) rfl (ev_eql (lr _) (lr _)) ?_
         refine sq_ev rfl (ev_pickT (v := .raw _) (less_b g8) (lr _)) ?_
         refine mvr (lr _) rfl ?_
         refine sq_split 131 (lr _) (fun g9 => ?_) (fun g9 => ?_)
         ·
          have g9' := g9
          try simp only [qq] at g9'
          refine sq_yes rfl rfl (less_b g9) rfl (ev_load_agg (lr _) rfl ty23 rfl) ?_
          refine sq_yes rfl rfl (less_b g9) rfl (ev_load_agg (lr _) rfl ty23 rfl) ?_
          refine sq_yes rfl rfl (less_b g9) rfl (ev_span_eql (lr _) (lr _)) ?_
          refine sq_ev rfl (ev_pickT (v := .raw _) (less_b g9) (lr _)) ?_
          refine mvr (lr _) rfl ?_
          refine sq_split 136 (lr _) (fun g10 => ?_) (fun g10 => ?_)
          ·
           have g10' := g10
           try simp only [qq] at g10'
           refine sq_yes rfl rfl (less_b g10) rfl (ev_call en21 (lr _) (known_pure) trivial) ?_
           refine sq_ev rfl (ev_pickT (v := .raw _) (less_b g10) (lr _)) ?_
           refine asr (lr _) rfl ?_
           refine sq_nil (aw_ret ?_)
           exact retQ_pure (v := .raw _) rfl rfl (lr _)
          ·
           have g10' := g10
           try simp only [qq] at g10'
           first | exact absurd g10 (by decide) | (simp at g10; done) | (exfalso; simp at g10; omega)
         ·
          have g9' := g9
          try simp only [qq] at g9'
          first | exact absurd g9 (by decide) | (simp at g9; done) | (exfalso; simp at g9; omega)
        ·
         have g8' := g8
         try simp only [qq] at g8'
         first | exact absurd g8 (by decide) | (simp at g8; done) | (exfalso; simp at g8; omega)
       ·
        have g7' := g7
        try simp only [qq] at g7'
        first | exact absurd g7 (by decide) | (simp at g7; done) | (exfalso; simp at g7; omega)
/-- **NightTimes returns true.** -/
theorem law4 (p : Pl) (n : Int) (_ : -9223372036854775808 ≤ n) (_ : n ≤ 9223372036854775807) : APure Tryz.prog 4 [plan p, I n] (B true) := by
  by_cases hs : p.scenes.length ≤ 12
  · by_cases h2 : askV p (isSc p n) = 0
    · have hk : PlOK p = true ∧ isSc p n = true := by
        unfold askV at h2; split at h2
        · rename_i h; exact h
        · cases h2
      have hc : ¬ (choicesC p).length = 0 := fun h => by unfold askV at h2; rw [if_pos hk, if_neg (by omega)] at h2; cases h2
      have h1 : askV p true = 0 := by unfold askV; rw [if_pos ⟨hk.1, rfl⟩, if_pos (by omega)]
      obtain ⟨gp, wp⟩ := gp_of_ok hk.1
      have hn1 : 0 ≤ n ∧ n < p.scenes.length := by have := hk.2; simp only [isSc, inn, Bool.and_eq_true, decide_eq_true_eq] at this; omega
      obtain ⟨n, rfl⟩ : ∃ m : Nat, n = (m : Int) := ⟨n.toNat, by omega⟩
      have hn : n < p.scenes.length := by omega
      obtain ⟨k, hkp, hk3⟩ := partOf_ok hk.1 hn
      by_cases hsel : (selT p n (choicesC p).length).length = 0
      · have h29 : ∀ F, overR p n F = ((0, 0), 5) := fun F => by unfold overR; rw [if_pos hk, if_neg hc, Int.toNat_natCast, if_pos hsel]
        have hb : decide (0 < (selT p n (choicesC p).length).length) = false := by simp [hsel]
        exact law4_none p n hs h1 h2 (en_ok hs hk.1 hc) (rE_pure gp wp) 0 0 0 0 5 (h29 _) (h29 _) _ _ _ _ (rt_pure gp wp hn hkp hk3 hb) (rl_pure gp wp hn hkp hk3 hb) rfl rfl rfl rfl rfl
      · have h29 : ∀ F, overR p n F = (ovT p n (F n) (choicesC p).length, 0) := fun F => by unfold overR; rw [if_pos hk, if_neg hc, Int.toNat_natCast, if_neg hsel]
        have hb : decide (0 < (selT p n (choicesC p).length).length) = true := by simp; omega
        exact law4_yes p n hs h1 h2 (en_ok hs hk.1 hc) (rE_pure gp wp) _ _ _ _ 0 (h29 _) (h29 _) (rt_pure gp wp hn hkp hk3 hb) (rl_pure gp wp hn hkp hk3 hb) rfl
    · by_cases h1 : askV p true = 0
      · have hk : PlOK p = true := by
          unfold askV at h1; split at h1
          · rename_i h; exact h.1
          · cases h1
        have hc : ¬ (choicesC p).length = 0 := fun h => by unfold askV at h1; rw [if_pos ⟨hk, rfl⟩, if_neg (by omega)] at h1; cases h1
        obtain ⟨gp, wp⟩ := gp_of_ok hk
        exact law4_scene p n hs _ _ h2 rfl rfl (ov_err _ h2) (ov_err _ h2) h1 (en_ok hs hk hc) (rE_pure gp wp)
      · exact law4_err p n hs _ _ h2 rfl rfl (ov_err _ h2) (ov_err _ h2) h1 (en_err hs h1)
  · exact law4_long p n hs
end Go.Proofs.YtjghdbdiejaacaaGreatDoor
