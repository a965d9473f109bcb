/-
  A part of the proof: conditions: none beyond each theorem's own.
-/
import Derived.Test.YtjghdbdiejaacaaGreatDoorWalkB
import Derived.Test.YtjghdbdiejaacaaGreatDoorSpecA
set_option linter.all false
namespace Go.Proofs.YtjghdbdiejaacaaGreatDoor
open Go Go.Ab Ni


def segs (p : Pl) (i : Nat) : List (List Nat) := seg p (p.scenes.length - i) []

set_option maxHeartbeats 4000000 in
/-- kelir/night.choices$1: all choices, in order -/
theorem nchoices_iter {p : Pl} (gp : GP p) : AIter Tryz.prog 155 [] [.iptr (planC p)] ((allC p).map nats) := by
 intro m st hm h1 h2 l T e vs hT ok hH hs hy
 have it : ItOK p e l m st T (T 0).length ((allC p).map nats) := ⟨gp, hT, hm, h1, fun i x hi hx X => hy i x hi hx X⟩
 have hgl := gp.len
 have key : ACallE e Tryz.prog 155 [.fn (.yield l) [] [], .iptr (planC p)] (T 0) (fun x H' => x = .ret (.tup []) ∧ ∃ X, H' = T m ++ X) := by
  refine acallE_of_marks (rs := []) Tryz.func155 rfl rfl (Nat.le_of_ble_eq_true rfl) fun e0 hle he0 => ?_
  rw [nil_pre (T 0)]
  refine aw_seq (aw_region ?_)
  refine sq_boxP (H0 := T 0) (X := []) rfl (lr _) rfl ?_
  refine sq_nil (aw_seq (aw_region ?_))
  refine sq_allocP (H0 := T 0) rfl z34 ?_
  refine sq_nil (aw_seq (aw_region ?_))
  refine sq_allocP (H0 := T 0) rfl z182 ?_
  refine sq_nil (aw_seq (aw_region ?_))
  refine sq_ev rfl ev_makeFunc ?_
  refine sq_storeP (H0 := T 0) (j := 2) rfl (lr _) (lr _) rfl rfl ty182 rfl rfl ?_
  refine sq_nil (aw_seq (aw_region ?_))
  refine sq_ev rfl (ev_fieldAddr_i fo27_3 (lr _)) ?_
  refine sq_ev rfl (ev_load_i (lr _) ty25 rfl) ?_
  refine sq_ev rfl (ev_len_map sl25 (lr _)) ?_
  refine asr (lr _) rfl ?_
  refine sq_nil (aw_block ?_)
  refine aw_loopk (ι := { g : Nat × List AObj // g.1 ≤ p.scenes.length + 1 ∧ LX p l (T 0).length g.2 [] ∧ (st = true → (fm g.1 (segs p)).length < m) }) [4] (fun g => [(5, I (p.scenes.length - g.1.1))])
   (fun _ g => T (fm g.1.1 (segs p)).length ++ g.1.2) (fun g => p.scenes.length + 1 - g.1.1) ⟨(0, locs p l (T 0).length (.raw (.slice none 0 0)) []), Nat.zero_le _, ⟨_, [], rfl, .inl ⟨rfl, rfl⟩⟩, fun h => by simpa [fm] using h2 h⟩
   ⟨(by exact less_int (by simp)), lr _, trivial⟩ rfl ?_
  rintro ⟨⟨d, Y⟩, hd, hX, hkd⟩
  dsimp only [keepS, St.put, sget, slotsOf, List.map_cons, List.map_nil, List.cons_append, List.nil_append, List.length_cons, List.length_nil, Nat.reduceBEq, Nat.reduceAdd, cond_true, cond_false]
  dsimp only at hd hX hkd
  obtain ⟨a, G, hY, hnow⟩ := hX
  subst hY
  have hTk := hT (fm d (segs p)).length
  refine aw_seq (aw_seq (aw_region ?_))
  refine mvr (lr _) rfl ?_
  refine sq_ev rfl (ev_geq (lr _) (lr _)) ?_
  refine sq_nil ?_
  refine aw_cond (lr _) (fun c2 => ?_) (fun c2 => ?_)
  ·
   have c2' : d ≤ p.scenes.length := by simp at c2; omega
   refine aw_skip (aw_seq (aw_block (aw_seq (aw_region ?_))))
   refine sq_ev rfl (ev_load (lr _) (box2 hTk) ty182 rfl) ?_
   refine mvr (lr _) rfl ?_
   refine sq_callE (es := e) hle rfl en156 (lr _) (args := [I (nxt []), I ((p.scenes.length - d : Nat) : Int), .iptr (planC p), .ptr ((T 0).length + 1) 0, .ptr ((T 0).length + 0) 0, .ptr ((T 0).length + 2) 0])
    ⟨lr _, less_int (by omega), lr _, lr _, lr _, lr _, trivial⟩
    (nfrom_call it (p.scenes.length - d) [] (fm d (segs p)).length (locs p l (T 0).length a G) (by simp) (by simp; omega) ⟨a, G, rfl, hnow⟩ hkd (fun i y hi => by
     have := fm_get (f := segs p) (p.scenes.length + 1) (by omega) hi
     rw [List.getElem?_map, allC_seg]
     have e1 : fm (p.scenes.length + 1) (fun i => seg p (p.scenes.length - i) []) = fm (p.scenes.length + 1) (segs p) := rfl
     rw [e1, this]; rfl)) ?_ (fun v H' ⟨X', h⟩ => by split at h <;> cases h.1)
   rintro v H' ⟨X', hR⟩
   split at hR
   ·
    obtain ⟨h1, rfl⟩ := hR
    cases h1
    refine sq_ev rfl (ev_not (lr _)) ?_
    refine sq_nil ?_
    refine aw_true (lr _) ?_
    refine aw_ret ?_
    exact ⟨_, .tup [], rfl, rfl, rfl, X', rfl⟩
   ·
    rename_i hstop
    obtain ⟨h1, h2, a2, G2, rfl, hnow2⟩ := hR
    cases h1
    have hq : (fm d (segs p)).length + (seg p (p.scenes.length - d) []).length = (fm (d + 1) (segs p)).length := by
     rw [fm_succ, List.length_append]; rfl
    rw [hq] at h2 hstop
    subst h2
    refine sq_ev rfl (ev_not (lr _)) ?_
    refine sq_nil ?_
    refine aw_false (lr _) ?_
    refine aw_skip (aw_region ?_)
    refine mvr (lr _) rfl ?_
    refine sq_ev rfl (ev_sub (lr _) (lr _) (wr (by omega) (by omega))) ?_
    refine asr (lr _) rfl ?_
    refine sq_nil ?_
    refine ⟨⟨(d + 1, locs p l (T 0).length a2 G2), by simp only; omega, ⟨a2, G2, rfl, hnow2⟩, fun h => ?_⟩, by simp only; omega, Sub.slots ⟨(by exact less_int (by simp <;> omega)), lr _, trivial⟩⟩
    simp only
    have : ¬ m ≤ (fm (d + 1) (segs p)).length := fun h' => hstop ⟨h, h'⟩
    omega
  ·
   have c2' : d = p.scenes.length + 1 := by simp at c2; omega
   subst c2'
   refine aw_exit ?_
   have e1 : (fm (p.scenes.length + 1) (segs p)).length = ((allC p).map nats).length := by rw [List.length_map, allC_seg]; rfl
   have hst : st = false := by
    cases h : st with
    | false => rfl
    | true => have := hkd h; omega
   refine ⟨_, .tup [], rfl, rfl, rfl, locs p l (T 0).length a G, ?_⟩
   rw [h1 hst, ← e1]
   rfl
 refine (key e vs (.refl e) ok hH hs).mono ?_
 rintro x w' ⟨ax, e', rfl, ok', fr, ⟨rfl, hX⟩, u, rfl, hu⟩
 exact ⟨u, e', rfl, rfl, ok', fr, hX⟩

/-- kelir/night.choices -/
theorem nchoices0_pure (p : Pl) : APure Tryz.prog 124 [plan p] (.fn (.func 155) [] [.iptr (planC p)]) := by
  refine apure_of (rs := [.tmp 2]) Tryz.func124 rfl rfl (Nat.le_of_ble_eq_true rfl) (by simp [AV.pureL, AV.pureB, AV.pureE, pureE_map]) (by simp [AV.pureL, AV.pureB, AV.pureE, pureE_map]) fun e0 he0 => ?_
  refine aw_seq (aw_region ?_)
  refine sq_box rfl (lr _) rfl ?_
  refine asr (lr _) rfl ?_
  refine sq_nil (aw_seq (aw_region ?_))
  refine sq_ev rfl ev_makeFunc ?_
  refine sq_ev rfl (ev_as (v := .fn _ _ _) (lr _)) ?_
  refine sq_nil ?_
  refine aw_sub (sub_iptr (j := 0) (l := planC p) (sl' := [(2, .fn (.func 155) [] [.iptr (planC p)])]) (H' := [.dead]) rfl rfl ?_) ?_
  · intro q hq e e' _ key v hv
    obtain rfl := List.mem_singleton.1 hq
    have hv : Rep e (.fn (.func 155) [] [.ptr 0 0]) v := hv
    rw [Rep] at hv ⊢
    obtain ⟨x, y, h1, h2, h3⟩ := hv
    rw [RepL] at h3
    obtain ⟨u, rest, h4, h5, h6⟩ := h3
    rw [RepL] at h6
    refine ⟨x, y, h1, ?_, ?_⟩
    · rw [RepL] at h2 ⊢; exact h2
    · rw [h4, h6]; exact RepL.cons (key _ h5) RepL.nil
  refine aw_ret ?_
  exact retQ_pure (v := .fn _ _ _) rfl rfl (lr _)


end Go.Proofs.YtjghdbdiejaacaaGreatDoor

namespace Go.Proofs.YtjghdbdiejaacaaGreatDoor
open Go Go.Ab Ni
theorem bi110 : bldInfo Tryz.prog 110 = some ([.raw (.int .i64 0), .raw (.int .i64 0), .raw (.int .i64 0), .raw (.int .i64 0), .raw (.int .i64 0), .raw (.int .i64 0), .raw (.int .i64 0), .raw (.slice none 0 0), .raw (.slice none 0 0)], true, [(0, 8), (8, 1)], 0) := by kernel_rfl
theorem en88 : Ent Tryz.prog 88 := Ent.of Tryz.func88 (by kernel_rfl) rfl
theorem sf107 : SlFact Tryz.prog 107 110 9 104 := SlFact.of (by kernel_rfl)
theorem ty107 : tySz Tryz.prog 107 = some (false, 1) := by kernel_rfl
theorem z107 : zeroOf Tryz.prog 107 = some [.raw (.slice none 0 0)] := by kernel_rfl
theorem z110 : zeroOf Tryz.prog 110 = some [.raw (.int .i64 0), .raw (.int .i64 0), .raw (.int .i64 0), .raw (.int .i64 0), .raw (.int .i64 0), .raw (.int .i64 0), .raw (.int .i64 0), .raw (.slice none 0 0), .raw (.slice none 0 0)] := by kernel_rfl

def playl (p : Pl) : List (List Nat) := (allC p).filter (canP p)
abbrev playeds (p : Pl) (L : List (List Nat)) : AV := .sl 9 (L.map (playedC p))
theorem xs_get {L : List (List Nat)} {i : Nat} {x : AV} (h : (L.map nats)[i]? = some x) : ∃ y, L[i]? = some y ∧ x = nats y := by
  rw [List.getElem?_map] at h
  cases hy : L[i]? with
  | none => rw [hy] at h; cases h
  | some y => rw [hy] at h; exact ⟨y, rfl, (Option.some.inj h).symm⟩
theorem get_eq {α : Type} {L : List α} {i : Nat} {y : α} (h : L[i]? = some y) : ∃ hk : i < L.length, L[i] = y := by
  have hk := lt_of_get? h
  exact ⟨hk, by rw [List.getElem?_eq_getElem hk] at h; exact Option.some.inj h⟩
theorem inE_played (n : Nat) (p : Pl) (L : List (List Nat)) : AV.inE n (L.map (playedC p)) = true := inE_map fun x _ => by simp [AV.inL, AV.inB, inE_map]
set_option maxHeartbeats 2000000 in
/-- kelir/night.playable -/
theorem nplayable_pure (p : Pl) (gp : GP p) : APure Tryz.prog 86 [plan p] (playeds p (playl p)) := by
  refine apure_of_marks (rs := [.tmp 2]) Tryz.func86 rfl rfl (Nat.le_of_ble_eq_true rfl) (by simp [AV.pureL, AV.pureB, AV.pureE, pureE_map]) (by simp [AV.pureL, AV.pureB, AV.pureE, pureE_map]) fun e0 he0 => ?_
  refine aw_seq (aw_region ?_)
  refine sq_box rfl (lr _) rfl ?_
  refine asr (lr _) rfl ?_
  refine sq_nil (aw_seq (aw_region ?_))
  refine sq_alloc rfl z107 ?_
  refine sq_nil (aw_seq (aw_seq (aw_region ?_)))
  refine sq_ev rfl (ev_load_agg (lr _) rfl ty27 rfl) ?_
  refine sq_ev rfl (ev_call en124 (lr _) (nchoices0_pure p) ⟨lr _, trivial⟩) ?_
  refine sq_nil (aw_block ?_)
  refine aw_sub (sub_token_box 1 9 rfl) ?_
  refine aw_rangeFunc1 (xs := (allC p).map nats) (fun k => [.cells (planC p), .cells [.own 2 9 ((((allC p).take k).filter (canP p)).map (playedC p))], .tok ((((allC p).take k).filter (canP p)).map (playedC p)).length]) ((allC p).map nats).length none (Nat.le_refl _) (fun _ => rfl) (fun h => absurd rfl h) rfl rfl (lr _) en155 (nchoices_iter gp) rfl (fun _ => rfl) (fun k hk => by show objsIn 3 _ = true; simp [objsIn, AObj.inB, AV.inB, AV.inL, AV.inE, inE_map, inE_played, inE_nats, -List.map_take, -List.map_map, -List.map_append]) (fun x hx => by obtain ⟨y, _, rfl⟩ := List.mem_map.1 hx; simp [AV.pureB, AV.pureL, AV.pureE, pureE_map]) rfl rfl ?_ ?_
  · intro l i x e0 hi hx he0
    obtain ⟨y, hy, rfl⟩ := xs_get hx
    obtain ⟨hk', he'⟩ := get_eq hy
    have cv := allC_mem gp y (List.mem_of_getElem? hy)
    have hft := ft_len (canP p) (allC p) i
    have hal := allC_len gp
    dsimp only [keepS, St.put, sget, slotsOf, List.map_cons, List.map_nil, List.cons_append, List.nil_append, List.length_cons, List.length_nil, Nat.reduceBEq, Nat.reduceAdd, cond_true, cond_false]
    refine aw_block (aw_seq (aw_region ?_))
    refine sq_ev rfl (ev_load_agg (lr _) rfl ty27 rfl) ?_
    refine sq_ev rfl (ev_mv (v := .sl _ _) (lr _)) ?_
    refine sq_ev rfl (ev_build bi110 rfl) ?_
    refine sq_alloc rfl z110 ?_
    refine sq_store rfl (lr _) (lr _) rfl rfl ty110 rfl rfl ?_
    refine sq_nil (aw_seq (aw_region ?_))
    refine sq_ev rfl (ev_load_agg (lr _) rfl ty110 rfl) ?_
    refine sq_ev rfl (ev_call en88 (lr _) (ncan_pure p y gp cv) ⟨lr _, trivial⟩) ?_
    refine sq_nil ?_
    refine aw_cond (lr _) (fun c1 => ?_) (fun c1 => ?_)
    · skip
      have c1' := c1
      try simp only [qq] at c1'
      have eS : (((allC p).take (i + 1)).filter (canP p)).map (playedC p) = (((allC p).take i).filter (canP p)).map (playedC p) ++ [playedC p y] := by rw [filter_take_succ _ hk', he', if_pos c1', List.map_append]; rfl
      refine aw_region ?_
      refine sq_ev rfl (ev_load (lr _) rfl ty107 rfl) ?_
      refine sq_ev rfl (ev_load_agg (lr _) rfl ty110 rfl) ?_
      refine sq_ev rfl (ev_buildSlice (es := [[_, _, _, _, _, _, _, _, _]]) sf107 rfl rfl rfl rfl) ?_
      refine sq_append rfl sf107 Tryz.underlying107 rfl rfl (less_slx _ _) (Nat.succ_pos _) (by simp; omega) (by simp; omega) ?_
      refine sq_store rfl (lr _) (lr _) rfl rfl ty107 rfl rfl ?_
      refine sq_nil ?_
      exact ⟨⟨[.cells (playedC p y)], congrArg (fun L => [AObj.cells (planC p), .cells [.own 2 9 L], .tok L.length, .cells (playedC p y)]) eS.symm⟩, rfl, by split <;> rfl⟩
    · skip
      have c1' := c1
      try simp only [qq] at c1'
      have eS : (((allC p).take (i + 1)).filter (canP p)).map (playedC p) = (((allC p).take i).filter (canP p)).map (playedC p) := by rw [filter_take_succ _ hk', he', if_neg (by simp [c1']), List.append_nil]
      refine aw_skip ?_
      exact ⟨⟨[.cells (playedC p y)], congrArg (fun L => [AObj.cells (planC p), .cells [.own 2 9 L], .tok L.length, .cells (playedC p y)]) eS.symm⟩, rfl, by split <;> rfl⟩
  · rintro _ rfl
    refine aw_seq (aw_region ?_)
    refine sq_ev rfl (ev_load (lr _) rfl ty107 rfl) ?_
    refine sq_ev rfl (ev_as (v := .own _ _ _) (lr _)) ?_
    refine sq_nil (aw_ret ?_)
    exact retQM_pure (v := .own _ _ _) rfl rfl (Less.trans (less_own _ _ _) (Less.eq (by simp [playl])))


end Go.Proofs.YtjghdbdiejaacaaGreatDoor

namespace Go.Proofs.YtjghdbdiejaacaaGreatDoor
open Go Go.Ab Ni
theorem en134 : Ent Tryz.prog 134 := Ent.of Tryz.func134 (by kernel_rfl) rfl
theorem en85 : Ent Tryz.prog 85 := Ent.of Tryz.func85 (by kernel_rfl) rfl
theorem en86 : Ent Tryz.prog 86 := Ent.of Tryz.func86 (by kernel_rfl) rfl
theorem sl107 : slElem Tryz.prog 107 = some (110, 9) := by kernel_rfl

theorem canP_can {p : Pl} {l : List Nat} (wp : WP p) (cv : CV p l) : canP p l = can p l := by
  rw [Bool.eq_iff_iff, can_ffail wp cv]; simp [canP]
theorem playl_choices {p : Pl} (gp : GP p) (wp : WP p) : playl p = choicesC p := List.filter_congr fun l hl => canP_can wp (allC_mem gp l hl)
theorem ncanw_pure {p : Pl} {l : List Nat} (gp : GP p) (cv : CV p l) (wp : WP p) : APure Tryz.prog 88 [played p l] (B (can p l)) := by
  rw [← canP_can wp cv]; exact ncan_pure p l gp cv
theorem nplayablew_pure {p : Pl} (gp : GP p) (wp : WP p) : APure Tryz.prog 86 [plan p] (playeds p (choicesC p)) := by
  rw [← playl_choices gp wp]; exact nplayable_pure p gp
theorem choicesC_len {p : Pl} (gp : GP p) : (choicesC p).length ≤ 1114112 := Nat.le_trans (List.length_filter_le _ _) (allC_len gp)
theorem choicesC_mem {p : Pl} (gp : GP p) : ∀ l ∈ choicesC p, CV p l := fun l hl => allC_mem gp l (List.mem_filter.1 hl).1
theorem pS_wp {p : Pl} {l : List Nat} (wp : WP p) : ∀ i, WP (pS p l i)
  | 0 => wp
  | i + 1 => fixP_wp (pS_wp wp i) _ _

set_option maxHeartbeats 1000000 in
/-- slices.Clone, of scenes -/
theorem nclonesc_call {l : List Sc} {H : List AObj} (hne : 0 < l.length) (hl : l.length ≤ 1000000) : ACall Tryz.prog 134 [.sl 5 (l.map sc)] H fun x H' => ∃ cap, (l.map sc).length ≤ cap ∧ x = .ret (.msl H.length 0 (l.map sc).length cap) ∧
  H' = H ++ [.cells ((l.map sc).flatten ++ List.replicate ((cap - (l.map sc).length) * 5) .any)] := by
 refine acall_of (rs := [.tmp 2]) Tryz.func134 rfl rfl (Nat.le_of_ble_eq_true rfl) fun e0 he0 => ?_
 refine aw_seq (aw_region ?_)
 refine asr (lr _) rfl ?_
 refine sq_nil (aw_seq (aw_seq (aw_region ?_)))
 refine sq_ev rfl (ev_mv (v := .sl _ _) (lr _)) ?_
 refine sq_ev rfl (ev_sl_nil_ne sl25 (lr _) (by simp; omega) (lr _)) ?_
 refine sq_nil ?_
 refine aw_false (lr _) ?_
 refine aw_skip (aw_seq (aw_region ?_))
 refine sq_ev rfl (ev_buildSlice (es := []) sf25 rfl rfl rfl rfl) ?_
 refine sq_ev rfl (ev_mv (v := .sl _ _) (lr _)) ?_
 refine sq_append_msl rfl sf25 Tryz.underlying25 (lr _) (lr _) (by simp; omega) (by simp; omega) (by simp; omega) fun cap hcap => ?_
 refine sq_ev rfl (ev_as (v := .msl _ _ _ _) (lr _)) ?_
 refine sq_nil (aw_ret ?_)
 exact ⟨rfl, _, rfl, cap, hcap, rfl, rfl⟩

set_option maxHeartbeats 2000000 in
/-- kelir/night.fixed -/
theorem nfixed_pure {p : Pl} {k : Nat} {n : Int} (hk : k < p.scenes.length) (hl : p.scenes.length ≤ 1000000) : APure Tryz.prog 87 [plan p, I k, I n] (plan (fixP p k n)) := by
 refine apure_of (rs := [.cell 6 27]) Tryz.func87 rfl rfl (Nat.le_of_ble_eq_true rfl) (by simp [AV.pureL, AV.pureB, AV.pureE, pureE_map]) (by simp [AV.pureL, AV.pureB, AV.pureE, pureE_map]) fun e0 he0 => ?_
 refine aw_seq (aw_region ?_)
 refine sq_box rfl (lr _) rfl ?_
 refine sq_alloc rfl z27 ?_
 refine sq_nil (aw_seq (aw_region ?_))
 refine sq_ev rfl (ev_fieldAddr fo27_3 (lr _)) ?_
 refine sq_ev rfl (ev_load (lr _) rfl ty25 rfl) ?_
 refine sq_call (first := []) (cap := []) (args := [.sl 5 (p.scenes.map sc)]) rfl en134 (lr _) ⟨lr _, trivial⟩ (nclonesc_call (l := p.scenes) (by omega) hl) ?_ (by rintro v H' ⟨_, _, h, _⟩; cases h)
 rintro _ _ ⟨cap, hcap, h, rfl⟩; cases h
 refine sq_ev rfl (ev_fieldAddr fo27_3 (lr _)) ?_
 refine sq_store rfl (lr _) (lr _) rfl rfl ty25 rfl rfl ?_
 refine sq_nil (aw_seq ?_)
 have hfl := flat_len p.scenes
 have hsp := splice2 n p.scenes k hk (List.replicate ((cap - (p.scenes.map sc).length) * 5) .any) _ _ rfl rfl
 have hle1 : Nat.ble (k * 5 + 1 + 1) ((p.scenes.map sc).flatten ++ List.replicate ((cap - (p.scenes.map sc).length) * 5) AV.any).length = true := Nat.ble_eq_true_of_le (by rw [List.length_append, hfl, List.length_replicate]; omega)
 have hle2 : Nat.ble (k * 5 + 2 + 1) (((p.scenes.map sc).flatten ++ List.replicate ((cap - (p.scenes.map sc).length) * 5) AV.any).take (k * 5 + 1) ++ [I n] ++ ((p.scenes.map sc).flatten ++ List.replicate ((cap - (p.scenes.map sc).length) * 5) AV.any).drop (k * 5 + 1 + 1)).length = true := Nat.ble_eq_true_of_le (by simp only [List.length_append, List.length_take, List.length_drop, hfl, List.length_replicate, List.length_singleton]; omega)
 refine aw_drawc [] [10, 13] _ mo (by kernel_rfl) (HSub.mask [2] 0 _) ?_
 refine dc_ev rfl (ev_fieldAddr fo27_3 (lr _)) ?_
 refine dc_ev rfl (ev_load (lr _) rfl ty25 rfl) ?_
 refine dc_ev rfl (ev_mv (v := .raw _) (lr _)) ?_
 refine dc_ev rfl (ev_fieldAddr fo27_3 (lr _)) ?_
 refine dc_ev rfl (ev_load (lr _) rfl ty25 rfl) ?_
 refine dc_ev rfl (ev_mv (v := .raw _) (lr _)) ?_
 refine dc_ev rfl (ev_mv (v := .raw _) (lr _)) ?_
 refine dc_ev rfl (ev_mv (v := .raw _) (lr _)) ?_
 refine dc_ev rfl (ev_less (v' := .ptr 2 (k * 5)) (ev_index_msl sl25 (lr _) (lr _) rfl (by simp; omega)) (Less.eq (congrArg (AV.ptr 2) (Nat.zero_add (k * 5))))) ?_
 refine dc_ev rfl (ev_fieldAddr fo84_1 (lr _)) ?_
 refine dc_eff rfl rfl (eff_store rfl (lr _) (lr _) rfl rfl ty3 rfl hle1) (by apply HL.sub; repeat' (first | exact HL.nil _ | apply HL.same | apply HL.tok)) ?_
 refine dc_ev rfl (ev_less (v' := .ptr 2 (k * 5)) (ev_index_msl sl25 (lr _) (lr _) rfl (by simp; omega)) (Less.eq (congrArg (AV.ptr 2) (Nat.zero_add (k * 5))))) ?_
 refine dc_ev rfl (ev_fieldAddr fo84_2 (lr _)) ?_
 refine dc_eff rfl rfl (eff_store rfl (lr _) (lr _) rfl rfl ty3 rfl hle2) (by apply HL.sub; repeat' (first | exact HL.nil _ | apply HL.same | apply HL.tok)) ?_
 refine dc_nil (aw_seq (aw_region ?_))
 refine sq_ev rfl (ev_load_agg (lr _) rfl ty27 rfl) ?_
 refine sq_store rfl (lr _) (lr _) rfl rfl ty27 rfl rfl ?_
 refine sq_nil ?_
 refine aw_sub (sub_freeze (j := 2) (n := (p.scenes.map sc).length) (cap := cap) (sz := 5) (es := (p.scenes.set k (fixS p.scenes[k] n)).map sc) (rest := List.replicate ((cap - (p.scenes.map sc).length) * 5) .any) (sl' := [(6, .ptr 1 0)]) (congrArg (fun l => some (AObj.cells l)) hsp) (by simp) (fun q hq => by obtain ⟨x, _, rfl⟩ := List.mem_map.1 hq; rfl) (fun q hq => by rw [List.mem_singleton] at hq; subst hq; exact Fz.same (AV.ptr 1 0)) (FzH.same _ (by decide) (FzH.cells (by decide) (FzL.cons (Fz.same _) (FzL.cons (Fz.same _) (FzL.cons (Fz.same _) (FzL.cons (Fz.same _) (FzL.cons (Fz.same _) (FzL.cons (Fz.same _) (FzL.cons (Fz.same _) (FzL.cons Fz.frozen FzL.nil)))))))) (FzH.dead _ rfl (FzH.nil _))))) ?_
 refine aw_ret ?_
 exact retQ_res (vs := [.agg _]) rfl rfl ⟨resVar_cell rfl rfl ty27 rfl, trivial⟩ (Less.eq (by simp [fixP, scn_eq hk]))

set_option maxHeartbeats 1000000 in
/-- kelir/night.Choices -/
theorem nChoices_pure (p : Pl) (hl : p.scenes.length ≤ 1000000) : APure Tryz.prog 22 [plan p] (if PlOK p = true then .tup [natss (choicesC p), I 0] else .tup [.sl 1 [], I 2]) := by
 refine apure_of (rs := [.tmp 2, .tmp 3]) Tryz.func22 rfl rfl (Nat.le_of_ble_eq_true rfl) (by simp [AV.pureL, AV.pureB, AV.pureE, pureE_map]) (by split <;> simp [AV.pureL, AV.pureB, AV.pureE, pureE_map]) fun e0 he0 => ?_
 refine aw_seq (aw_region ?_)
 refine sq_box rfl (lr _) rfl ?_
 refine asr (lr _) rfl ?_
 refine asr (lr _) rfl ?_
 refine sq_nil (aw_seq (aw_seq (aw_region ?_)))
 refine sq_ev rfl (ev_load_agg (lr _) rfl ty27 rfl) ?_
 refine sq_ev rfl (ev_call en85 (lr _) (isplan_pure p hl) ⟨lr _, trivial⟩) ?_
 refine sq_ev rfl (ev_not (lr _)) ?_
 refine sq_nil ?_
 refine aw_cond (lr _) (fun c1 => ?_) (fun c1 => ?_)
 ·
  have c1' := c1
  try simp only [qq] at c1'
  refine aw_seq (aw_region ?_)
  refine asr (lr _) rfl ?_
  refine asr (lr _) rfl ?_
  refine sq_nil (aw_ret ?_)
  exact retQ_pure (v := .tup [.raw _, .raw _]) rfl rfl (Less.trans (b := .tup [.sl 1 [], I 2]) (less_tup ⟨less_nil 1, lr _, trivial⟩) (Less.eq (by simp [c1'])))
 ·
  have c1' := c1
  try simp only [qq] at c1'
  obtain ⟨gp, wp⟩ := gp_of_ok c1'
  refine aw_skip (aw_seq (aw_region ?_))
  refine asr (lr _) rfl ?_
  refine sq_nil (aw_seq (aw_seq (aw_region ?_)))
  refine sq_ev rfl (ev_load_agg (lr _) rfl ty27 rfl) ?_
  refine sq_ev rfl (ev_call en86 (lr _) (nplayablew_pure gp wp) ⟨lr _, trivial⟩) ?_
  refine sq_ev rfl (ev_len_map sl107 (lr _)) ?_
  refine mvr (lr _) rfl ?_
  refine sq_nil (aw_block ?_)
  refine aw_sub (sub_token 4 1 (lr _)) ?_
  refine aw_loopk (ι := { k : Nat // k ≤ (choicesC p).length }) [11, 12] (fun i => [(13, I i.1), (4, .own 1 1 (((choicesC p).take i.1).map fun x => [nats x]))]) (fun H i => H.set 1 (.tok (((choicesC p).take i.1).map fun x => [nats x]).length)) (fun i => (choicesC p).length - i.1) (⟨0, Nat.zero_le _⟩) ⟨lr _, lr _, lr _, lr _, trivial⟩ rfl ?_
  rintro ⟨k, hk⟩
  dsimp only [keepS, St.put, sget, slotsOf, List.map_cons, List.map_nil, List.cons_append, List.nil_append, List.length_cons, List.length_nil, Nat.reduceBEq, Nat.reduceAdd, cond_true, cond_false]
  have hcl := choicesC_len gp
  refine aw_seq (aw_region ?_)
  refine sq_ev rfl (ev_lss (lr _) (lr _)) ?_
  refine sq_nil (aw_seq ?_)
  refine aw_cond (lr _) (fun c2 => ?_) (fun c2 => ?_)
  ·
   have c2' := c2
   try simp only [qq] at c2'
   have hk' : k < (choicesC p).length := by omega
   have eS : ((choicesC p).take (k + 1)).map (fun x => [nats x]) = ((choicesC p).take k).map (fun x => [nats x]) ++ [[nats (choicesC p)[k]]] := map_take_succ _ hk'
   refine aw_skip (aw_seq (aw_block (aw_seq (aw_region ?_))))
   refine sq_ev rfl (ev_index_map sl107 (lr _) (lr _) rfl (by omega)) ?_
   refine sq_ev rfl (ev_load_agg_i (lr _) ty110 (Nat.le_of_ble_eq_true rfl)) ?_
   refine sq_alloc rfl z110 ?_
   refine sq_store rfl (lr _) (lr _) rfl rfl ty110 rfl rfl ?_
   refine sq_nil (aw_region ?_)
   refine sq_ev rfl (ev_mv (v := .own _ _ _) (lr _)) ?_
   refine sq_ev rfl (ev_fieldAddr fo110_1 (lr _)) ?_
   refine sq_ev rfl (ev_load (lr _) rfl ty34 rfl) ?_
   refine sq_ev rfl (ev_buildSlice (es := [[_]]) sf30 rfl rfl rfl rfl) ?_
   refine sq_append rfl sf30 Tryz.underlying30 rfl rfl (less_slx _ _) (Nat.succ_pos _) (by simp; omega) (by simp; omega) ?_
   refine sq_ev rfl (ev_as (v := .own _ _ _) (lr _)) ?_
   refine sq_nil (aw_region ?_)
   refine sq_ev rfl (ev_add (lr _) (lr _) (wr (by omega) (by omega))) ?_
   refine mvr (lr _) rfl ?_
   refine sq_nil ?_
   exact ⟨⟨k + 1, by omega⟩, by simp only; omega, Sub.fin 2 ⟨lr _, Less.eq (b := .own 1 1 (((choicesC p).take (k + 1)).map fun x => [nats x])) (by rw [eS] <;> rfl), lr _, lr _, trivial⟩ (congrArg (fun n => [_, AObj.tok n]) (congrArg List.length eS.symm)) (by simp [slotsIn, objsIn, sget, keepS, AObj.inB, AV.inB, AV.inL, AV.inE, inE_map, inE_nats, inE_sc, -List.map_append, -List.map_take, -List.map_map]) (by simp [slotsIn, objsIn, sget, keepS, AObj.inB, AV.inB, AV.inL, AV.inE, inE_map, inE_nats, inE_sc, -List.map_append, -List.map_take, -List.map_map]) (by simp [he0])⟩
  ·
   have c2' := c2
   try simp only [qq] at c2'
   obtain rfl : k = (choicesC p).length := by omega
   refine aw_exit (aw_seq (aw_region ?_))
   refine sq_ev rfl (ev_mv (v := .own _ _ _) (lr _)) ?_
   refine sq_ev rfl (ev_as (v := .own _ _ _) (lr _)) ?_
   refine asr (lr _) rfl ?_
   refine sq_nil (aw_ret ?_)
   exact retQ_pure (v := .tup [.own _ _ _, .raw _]) rfl rfl (Less.trans (b := .tup [natss (choicesC p), I 0]) (less_tup ⟨Less.trans (less_own _ _ _) (Less.eq (by simp)), lr _, trivial⟩) (Less.eq (by simp [c1'])))


end Go.Proofs.YtjghdbdiejaacaaGreatDoor

namespace Go.Proofs.YtjghdbdiejaacaaGreatDoor
open Go Go.Ab Ni
theorem en87 : Ent Tryz.prog 87 := Ent.of Tryz.func87 (by kernel_rfl) rfl

def progAV (p : Pl) : AV := if PlOK p = true then (match choicesC p with | [] => .tup [.sl 1 [], .sl 1 [], I 5] | l :: _ => .tup [nats l, ints (firstL p l), I 0]) else .tup [.sl 1 [], .sl 1 [], I 2]
theorem progAV_pure (p : Pl) : (progAV p).pureB = true := by
  unfold progAV; split
  · split <;> simp [AV.pureB, AV.pureL, AV.pureE, pureE_map]
  · rfl
theorem progAV_nil {p : Pl} (h : PlOK p = true) (k : (choicesC p).length = 0) : progAV p = .tup [.sl 1 [], .sl 1 [], I 5] := by
  unfold progAV; rw [if_pos h, List.length_eq_zero_iff.1 k]
theorem progAV_cons {p : Pl} (h : PlOK p = true) (k : 0 < (choicesC p).length) : progAV p = .tup [nats (choicesC p)[0], ints (firstL p (choicesC p)[0]), I 0] := by
  unfold progAV; rw [if_pos h]
  obtain ⟨l, L, hc⟩ : ∃ l L, choicesC p = l :: L := by
    cases hc : choicesC p with
    | nil => rw [hc] at k; simp at k
    | cons l L => exact ⟨l, L, rfl⟩
  have e0 : (choicesC p)[0] = l := by simp [hc]
  rw [e0, hc]
set_option maxHeartbeats 4000000 in
/-- kelir/night.Programme -/
theorem nProgramme_pure (p : Pl) (hl0 : p.scenes.length ≤ 1000000) : APure Tryz.prog 23 [plan p] (progAV p) := by
  refine apure_of (rs := [.tmp 2, .tmp 3, .tmp 4]) Tryz.func23 rfl rfl (Nat.le_of_ble_eq_true rfl) (by simp [AV.pureL, AV.pureB, AV.pureE, pureE_map]) (progAV_pure p) fun e0 he0 => ?_
  refine aw_seq (aw_region ?_)
  refine sq_box rfl (lr _) rfl ?_
  refine asr (lr _) rfl ?_
  refine asr (lr _) rfl ?_
  refine asr (lr _) rfl ?_
  refine sq_nil (aw_seq (aw_seq (aw_region ?_)))
  refine sq_ev rfl (ev_load_agg (lr _) rfl ty27 rfl) ?_
  refine sq_ev rfl (ev_call en85 (lr _) (isplan_pure p hl0) ⟨lr _, trivial⟩) ?_
  refine sq_ev rfl (ev_not (lr _)) ?_
  refine sq_nil ?_
  refine aw_cond (lr _) (fun c1 => ?_) (fun c1 => ?_)
  · skip
    have c1' := c1
    try simp only [qq] at c1'
    refine aw_seq (aw_region ?_)
    refine asr (lr _) rfl ?_
    refine asr (lr _) rfl ?_
    refine asr (lr _) rfl ?_
    refine sq_nil (aw_ret ?_)
    exact retQ_pure (v := .tup [.raw _, .raw _, .raw _]) rfl rfl (Less.trans (b := .tup [.sl 1 [], .sl 1 [], I 2]) (less_tup ⟨less_nil 1, less_nil 1, lr _, trivial⟩) (Less.eq (by simp [progAV, c1'])))
  · skip
    have c1' := c1
    try simp only [qq] at c1'
    obtain ⟨gp, wp⟩ := gp_of_ok c1'
    refine aw_skip (aw_seq (aw_region ?_))
    refine sq_ev rfl (ev_load_agg (lr _) rfl ty27 rfl) ?_
    refine sq_ev rfl (ev_call en86 (lr _) (nplayablew_pure gp wp) ⟨lr _, trivial⟩) ?_
    refine sq_ev rfl (ev_as (v := .sl _ _) (lr _)) ?_
    refine sq_nil (aw_seq (aw_seq (aw_region ?_)))
    refine sq_ev rfl (ev_mv (v := .sl _ _) (lr _)) ?_
    refine sq_ev rfl (ev_len_map sl107 (lr _)) ?_
    refine sq_ev rfl (ev_eql (lr _) (lr _)) ?_
    refine sq_nil ?_
    refine aw_cond (lr _) (fun c2 => ?_) (fun c2 => ?_)
    · skip
      have c2' := c2
      try simp only [qq] at c2'
      have h0 : (choicesC p).length = 0 := by omega
      refine aw_seq (aw_region ?_)
      refine asr (lr _) rfl ?_
      refine asr (lr _) rfl ?_
      refine asr (lr _) rfl ?_
      refine sq_nil (aw_ret ?_)
      exact retQ_pure (v := .tup [.raw _, .raw _, .raw _]) rfl rfl (Less.trans (b := .tup [.sl 1 [], .sl 1 [], I 5]) (less_tup ⟨less_nil 1, less_nil 1, lr _, trivial⟩) (Less.eq (progAV_nil c1' h0).symm))
    · skip
      have c2' := c2
      try simp only [qq] at c2'
      have hne : 0 < (choicesC p).length := by omega
      refine aw_skip (aw_seq (aw_region ?_))
      refine sq_ev rfl (ev_mv (v := .sl _ _) (lr _)) ?_
      refine sq_ev rfl (ev_index_map (k := 0) sl107 (lr _) (lr _) rfl hne) ?_
      refine sq_ev rfl (ev_load_agg_i (lr _) ty110 (Nat.le_of_ble_eq_true rfl)) ?_
      refine sq_alloc rfl z110 ?_
      refine sq_store rfl (lr _) (lr _) rfl rfl ty110 rfl rfl ?_
      refine sq_nil (aw_seq ?_)
      generalize hl : (choicesC p)[0] = l
      have cv : CV p l := choicesC_mem gp l (hl ▸ List.getElem_mem hne)
      refine aw_region ?_
      refine asr (lr _) rfl ?_
      refine sq_nil (aw_seq (aw_seq (aw_region ?_)))
      refine sq_ev rfl (ev_fieldAddr fo110_1 (lr _)) ?_
      refine sq_ev rfl (ev_load (lr _) rfl ty34 rfl) ?_
      refine sq_ev rfl (ev_len_map sl34 (lr _)) ?_
      refine mvr (lr _) rfl ?_
      refine sq_nil (aw_block ?_)
      refine aw_sub (sub_token 7 1 (lr _)) ?_
      refine aw_loopk (ι := { i : Nat // i ≤ l.length }) [6, 23, 24] (fun i => [(25, I i.1), (7, .own 2 1 ((oS p l i.1).map (fun x => [I x])))]) (fun H i => [.cells (planC p), .cells (playedC (pS p l i.1) l), .tok ((oS p l i.1).map (fun x => [I x])).length]) (fun i => l.length - i.1) (⟨0, Nat.zero_le _⟩) ⟨lr _, lr _, lr _, lr _, lr _, trivial⟩ rfl ?_
      rintro ⟨i, i1⟩
      dsimp only [keepS, St.put, sget, slotsOf, List.map_cons, List.map_nil, List.cons_append, List.nil_append, List.length_cons, List.length_nil, Nat.reduceBEq, Nat.reduceAdd, cond_true, cond_false]
      obtain ⟨gpi, cvi⟩ := pS_ok gp cv i i1
      have wpi := pS_wp (l := l) wp i
      have gl := cv.len
      have hol := oS_len p l i
      refine aw_seq (aw_region ?_)
      refine sq_ev rfl (ev_lss (lr _) (lr _)) ?_
      refine sq_nil (aw_seq ?_)
      refine aw_cond (lr _) (fun c3 => ?_) (fun c3 => ?_)
      · skip
        have c3' := c3
        try simp only [qq] at c3'
        have hk : i < l.length := by omega
        have hlt := cvi.rng _ (List.getElem_mem hk)
        have he := scn_eq hlt
        have hgd : l.getD i 0 = l[i] := by rw [List.getD_eq_getElem?_getD, List.getElem?_eq_getElem hk]; rfl
        have hm := gpi.most hlt
        have hv := gpi.least hlt
        rw [he] at hm hv
        refine aw_skip (aw_seq (aw_block (aw_seq (aw_region ?_))))
        refine sq_ev rfl (ev_index_map sl34 (lr _) (lr _) rfl (by omega)) ?_
        refine sq_ev rfl (ev_load_i (lr _) ty3 rfl) ?_
        refine asr (lr _) rfl ?_
        refine sq_nil (aw_seq (aw_region ?_))
        refine sq_ev rfl (ev_fieldAddr fo110_0 (lr _)) ?_
        refine sq_ev rfl (ev_fieldAddr fo27_3 (lr _)) ?_
        refine sq_ev rfl (ev_load (lr _) rfl ty25 rfl) ?_
        refine mvr (lr _) rfl ?_
        refine sq_ev rfl (ev_index_map sl25 (lr _) (lr _) rfl (by omega)) ?_
        refine sq_ev rfl (ev_fieldAddr_i fo84_1 (lr _)) ?_
        refine sq_ev rfl (ev_load_i (lr _) ty3 rfl) ?_
        refine asr (lr _) rfl ?_
        refine sq_nil (aw_seq (aw_block ?_))
        refine aw_loopk (ι := { n : Int // (0 ≤ n ∧ n ≤ 10000) ∧ climb (pS p l i) l l[i] (fuel (pS p l i) l[i] n) n = len1 (pS p l i) l l[i] }) [6, 7, 9, 23, 24, 25] (fun n => [(10, I n.1)]) (fun H n => H) (fun n => (10000 - n.1).toNat) (⟨(scn (pS p l i) l[i]).least, gpi.least hlt, rfl⟩) ⟨(by exact less_int (congrArg Sc.least he).symm), lr _, lr _, lr _, lr _, lr _, lr _, trivial⟩ rfl ?_
        rintro ⟨n, hnb, hcl⟩
        dsimp only [keepS, St.put, sget, slotsOf, List.map_cons, List.map_nil, List.cons_append, List.nil_append, List.length_cons, List.length_nil, Nat.reduceBEq, Nat.reduceAdd, cond_true, cond_false]
        refine aw_seq (aw_seq ?_)
        refine aw_draw 21 mo (by kernel_rfl) ?_
        refine dr_ev rfl (ev_mv (v := .raw _) (lr _)) ?_
        refine dr_ev rfl (ev_fieldAddr fo110_0 (lr _)) ?_
        refine dr_ev rfl (ev_fieldAddr fo27_3 (lr _)) ?_
        refine dr_ev rfl (ev_load (lr _) rfl ty25 rfl) ?_
        refine dr_ev rfl (ev_mv (v := .raw _) (lr _)) ?_
        refine dr_ev rfl (ev_index_map sl25 (lr _) (lr _) rfl (by omega)) ?_
        refine dr_ev rfl (ev_fieldAddr_i fo84_2 (lr _)) ?_
        refine dr_ev rfl (ev_load_i (lr _) ty3 rfl) ?_
        refine dr_ev rfl (ev_lss (lr _) (lr _)) ?_
        refine dr_ev rfl (ev_mv (v := .raw _) (lr _)) ?_
        refine dr_split 45 (lr _) (fun g4 => ?_) (fun g4 => ?_)
        · skip
          have g4' := g4
          try simp only [qq] at g4'
          refine dr_yes rfl rfl (less_b g4) rfl (ev_fieldAddr fo110_0 (lr _)) ?_
          refine dr_yes rfl rfl (less_b g4) rfl (ev_load_agg (lr _) rfl ty27 rfl) ?_
          refine dr_yes rfl rfl (less_b g4) rfl (ev_mv (v := .raw _) (lr _)) ?_
          refine dr_yes rfl rfl (less_b g4) rfl (ev_mv (v := .raw _) (lr _)) ?_
          refine dr_yes rfl rfl (less_b g4) rfl (ev_call en87 (lr _) (nfixed_pure hlt (by have := gpi.len; omega)) ⟨lr _, lr _, lr _, trivial⟩) ?_
          refine dr_yes rfl rfl (less_b g4) rfl (ev_fieldAddr fo110_1 (lr _)) ?_
          refine dr_yes rfl rfl (less_b g4) rfl (ev_load (lr _) rfl ty34 rfl) ?_
          refine dr_yes rfl rfl (less_b g4) rfl (ev_build bi110 rfl) ?_
          refine dr_yes rfl rfl (less_b g4) rfl (ev_call en88 (lr _) (ncanw_pure (fixP_gp gpi _ hnb) (fixP_cv cvi _ _) (fixP_wp wpi _ _)) ⟨lr _, trivial⟩) ?_
          refine dr_yes rfl rfl (less_b g4) rfl (ev_not (lr _)) ?_
          refine dr_ev rfl (ev_pickT (v := .raw _) (less_b g4) (lr _)) ?_
          refine dr_end (sq_nil ?_)
          refine aw_cond (lr _) (fun c5 => ?_) (fun c5 => ?_)
          · skip
            have c5' := c5
            try simp only [qq] at c5'
            have hgo : goOn (pS p l i) l l[i] n = true := by simp [goOn, *]
            refine aw_skip (aw_block (aw_region ?_))
            refine mvr (lr _) rfl ?_
            refine sq_ev rfl (ev_add (lr _) (lr _) (wr (by omega) (by omega))) ?_
            refine asr (lr _) rfl ?_
            refine sq_nil ?_
            exact ⟨⟨n + 1, by omega, by rw [← climb_go hgo]; exact hcl⟩, by simp only; omega, Sub.slots ⟨lr _, lr _, lr _, lr _, lr _, lr _, lr _, trivial⟩⟩
          · skip
            have c5' := c5
            try simp only [qq] at c5'
            have hgo : goOn (pS p l i) l l[i] n = false := by simp [goOn, *]
            have hn : n = len1 (pS p l i) l l[i] := by rw [← hcl, climb_stop hgo]
            have e3 : pS p l (i + 1) = fixP (pS p l i) l[i] n := by simp only [pS, hgd, hn]
            have e1 : (oS p l (i + 1)).map (fun x => [I x]) = (oS p l i).map (fun x => [I x]) ++ [[I n]] := by simp only [oS, hgd, ← hn, List.map_append, List.map_cons, List.map_nil]
            have e2 : ((oS p l (i + 1)).map (fun x => [I x])).length = ((oS p l i).map (fun x => [I x]) ++ [[I n]]).length := by rw [e1]
            refine aw_exit (aw_seq (aw_region ?_))
            refine sq_ev rfl (ev_mv (v := .own _ _ _) (lr _)) ?_
            refine mvr (lr _) rfl ?_
            refine sq_ev rfl (ev_buildSlice (es := [[_]]) sf34 rfl rfl rfl rfl) ?_
            refine sq_append rfl sf34 Tryz.underlying34 rfl rfl (less_slx _ _) (Nat.succ_pos _) (by simp; omega) (by simp; omega) ?_
            refine sq_ev rfl (ev_as (v := .own _ _ _) (lr _)) ?_
            refine sq_nil (aw_region ?_)
            refine sq_ev rfl (ev_fieldAddr fo110_0 (lr _)) ?_
            refine sq_ev rfl (ev_load_agg (lr _) rfl ty27 rfl) ?_
            refine mvr (lr _) rfl ?_
            refine mvr (lr _) rfl ?_
            refine sq_ev rfl (ev_call en87 (lr _) (nfixed_pure hlt (by have := gpi.len; omega)) ⟨lr _, lr _, lr _, trivial⟩) ?_
            refine sq_ev rfl (ev_fieldAddr fo110_0 (lr _)) ?_
            refine sq_store rfl (lr _) (lr _) rfl rfl ty27 rfl rfl ?_
            refine sq_nil (aw_region ?_)
            refine sq_ev rfl (ev_add (lr _) (lr _) (wr (by omega) (by omega))) ?_
            refine mvr (lr _) rfl ?_
            refine sq_nil ?_
            exact ⟨⟨i + 1, by omega⟩, by simp only; omega, Sub.fin 3 ⟨lr _, Less.eq (b := .own 2 1 ((oS p l (i + 1)).map (fun x => [I x]))) (by rw [e1] <;> rfl), lr _, lr _, lr _, trivial⟩ ((congrArg (fun (q : Pl) => [AObj.cells (planC p), AObj.cells (playedC q l), AObj.tok ((oS p l i).map (fun x => [I x]) ++ [[I n]]).length]) e3.symm).trans (congrArg (fun (m : Nat) => [AObj.cells (planC p), AObj.cells (playedC (pS p l (i + 1)) l), AObj.tok m]) e2.symm)) (by simp [slotsIn, objsIn, sget, keepS, AObj.inB, AV.inB, AV.inL, AV.inE, inE_map]) (by simp [slotsIn, objsIn, sget, keepS, AObj.inB, AV.inB, AV.inL, AV.inE, inE_map]) (by simp [he0])⟩
        · skip
          have g4' := g4
          try simp only [qq] at g4'
          have hgo : goOn (pS p l i) l l[i] n = false := by simp [goOn, *]
          have hn : n = len1 (pS p l i) l l[i] := by rw [← hcl, climb_stop hgo]
          have e3 : pS p l (i + 1) = fixP (pS p l i) l[i] n := by simp only [pS, hgd, hn]
          have e1 : (oS p l (i + 1)).map (fun x => [I x]) = (oS p l i).map (fun x => [I x]) ++ [[I n]] := by simp only [oS, hgd, ← hn, List.map_append, List.map_cons, List.map_nil]
          have e2 : ((oS p l (i + 1)).map (fun x => [I x])).length = ((oS p l i).map (fun x => [I x]) ++ [[I n]]).length := by rw [e1]
          refine dr_no rfl rfl (less_b g4) rfl rfl ?_
          refine dr_no rfl rfl (less_b g4) rfl rfl ?_
          refine dr_no rfl rfl (less_b g4) rfl rfl ?_
          refine dr_no rfl rfl (less_b g4) rfl rfl ?_
          refine dr_no rfl rfl (less_b g4) rfl rfl ?_
          refine dr_no rfl rfl (less_b g4) rfl rfl ?_
          refine dr_no rfl rfl (less_b g4) rfl rfl ?_
          refine dr_no rfl rfl (less_b g4) rfl rfl ?_
          refine dr_no rfl rfl (less_b g4) rfl rfl ?_
          refine dr_no rfl rfl (less_b g4) rfl rfl ?_
          refine dr_ev rfl (ev_pickF (v := .raw _) (less_b g4) (lr _)) ?_
          refine dr_end (sq_nil ?_)
          refine aw_false (lr _) ?_
          refine aw_exit (aw_seq (aw_region ?_))
          refine sq_ev rfl (ev_mv (v := .own _ _ _) (lr _)) ?_
          refine mvr (lr _) rfl ?_
          refine sq_ev rfl (ev_buildSlice (es := [[_]]) sf34 rfl rfl rfl rfl) ?_
          refine sq_append rfl sf34 Tryz.underlying34 rfl rfl (less_slx _ _) (Nat.succ_pos _) (by simp; omega) (by simp; omega) ?_
          refine sq_ev rfl (ev_as (v := .own _ _ _) (lr _)) ?_
          refine sq_nil (aw_region ?_)
          refine sq_ev rfl (ev_fieldAddr fo110_0 (lr _)) ?_
          refine sq_ev rfl (ev_load_agg (lr _) rfl ty27 rfl) ?_
          refine mvr (lr _) rfl ?_
          refine mvr (lr _) rfl ?_
          refine sq_ev rfl (ev_call en87 (lr _) (nfixed_pure hlt (by have := gpi.len; omega)) ⟨lr _, lr _, lr _, trivial⟩) ?_
          refine sq_ev rfl (ev_fieldAddr fo110_0 (lr _)) ?_
          refine sq_store rfl (lr _) (lr _) rfl rfl ty27 rfl rfl ?_
          refine sq_nil (aw_region ?_)
          refine sq_ev rfl (ev_add (lr _) (lr _) (wr (by omega) (by omega))) ?_
          refine mvr (lr _) rfl ?_
          refine sq_nil ?_
          exact ⟨⟨i + 1, by omega⟩, by simp only; omega, Sub.fin 3 ⟨lr _, Less.eq (b := .own 2 1 ((oS p l (i + 1)).map (fun x => [I x]))) (by rw [e1] <;> rfl), lr _, lr _, lr _, trivial⟩ ((congrArg (fun (q : Pl) => [AObj.cells (planC p), AObj.cells (playedC q l), AObj.tok ((oS p l i).map (fun x => [I x]) ++ [[I n]]).length]) e3.symm).trans (congrArg (fun (m : Nat) => [AObj.cells (planC p), AObj.cells (playedC (pS p l (i + 1)) l), AObj.tok m]) e2.symm)) (by simp [slotsIn, objsIn, sget, keepS, AObj.inB, AV.inB, AV.inL, AV.inE, inE_map]) (by simp [slotsIn, objsIn, sget, keepS, AObj.inB, AV.inB, AV.inL, AV.inE, inE_map]) (by simp [he0])⟩
      · skip
        have c3' := c3
        try simp only [qq] at c3'
        obtain rfl : i = l.length := by omega
        refine aw_exit (aw_seq (aw_region ?_))
        refine sq_ev rfl (ev_fieldAddr fo110_1 (lr _)) ?_
        refine sq_ev rfl (ev_load (lr _) rfl ty34 rfl) ?_
        refine sq_ev rfl (ev_mv (v := .own _ _ _) (lr _)) ?_
        refine sq_ev rfl (ev_as (v := .sl _ _) (lr _)) ?_
        refine sq_ev rfl (ev_as (v := .own _ _ _) (lr _)) ?_
        refine asr (lr _) rfl ?_
        refine sq_nil (aw_ret ?_)
        exact retQ_pure (v := .tup [.sl _ _, .own _ _ _, .raw _]) rfl rfl (Less.trans (b := .tup [nats l, ints (firstL p l), I 0]) (less_tup ⟨lr _, Less.trans (less_own _ _ _) (Less.eq (by rfl)), lr _, trivial⟩) (Less.eq (by subst hl; exact (progAV_cons c1' hne).symm)))


end Go.Proofs.YtjghdbdiejaacaaGreatDoor

namespace Go.Proofs.YtjghdbdiejaacaaGreatDoor
open Go Go.Ab Ni
theorem en139 : Ent Tryz.prog 139 := Ent.of Tryz.func139 (by kernel_rfl) rfl

def chosenB (p : Pl) (l : List Int) : Bool := PlOK p && Ris p l && isCh p l
abbrev playedI (p : Pl) (l : List Int) : AV := .agg [I p.beg, I p.s0l, I p.s0h, I p.s1l, I p.s1h, I p.dl, I p.dh, .sl 5 (p.scenes.map sc), ints l]
theorem ris_up {p : Pl} {l : List Int} (hp : p.scenes.length ≤ 10) (h : Ris p l = true) : ∃ l', l = up l' ∧ CV p l' := by
  unfold Ris at h
  rw [okAll_iff] at h
  have hx : ∀ i (h : i < l.length), 0 ≤ l[i] ∧ l[i] < p.scenes.length := fun i hi => by
    have := h i hi
    simp only [risBad, isSc, inn, Bool.or_eq_false_iff, Bool.not_eq_false', Bool.and_eq_true, decide_eq_true_eq] at this
    omega
  have hm : ∀ x ∈ l, 0 ≤ x ∧ x < p.scenes.length := fun x hx' => by obtain ⟨i, hi, rfl⟩ := List.getElem_of_mem hx'; exact hx i hi
  have hinc : ∀ i (hi : i < l.length), (i : Int) ≤ l[i] := by
    intro i
    induction i with
    | zero => intro hi; have := hx 0 hi; omega
    | succ i ih =>
      intro hi
      have h1 := ih (by omega)
      have h2 := h (i + 1) hi
      simp only [risBad, Bool.or_eq_false_iff, Bool.and_eq_false_iff, decide_eq_false_iff_not, Nat.add_sub_cancel] at h2
      have := h2.2
      omega
  refine ⟨l.map Int.toNat, ?_, ?_, fun x hx' => ?_⟩
  · unfold up; rw [List.map_map]
    conv => lhs; rw [← List.map_id l]
    refine List.map_congr_left fun x hx' => ?_
    have := hm x hx'
    simp only [Function.comp, id]; omega
  · rw [List.length_map]
    rcases Nat.lt_or_ge 1000 l.length with hl | hl
    · have h1 := hinc 1000 hl
      have h2 := hx 1000 hl
      omega
    · exact hl
  · obtain ⟨y, hy, rfl⟩ := List.mem_map.1 hx'
    have := hm y hy
    omega
theorem chosen_up {p : Pl} {l : List Int} (h : chosenB p l = true) : ∃ l', l = up l' ∧ CV p l' ∧ GP p ∧ WP p := by
  simp only [chosenB, Bool.and_eq_true] at h
  obtain ⟨gp, wp⟩ := gp_of_ok h.1.1
  obtain ⟨l', h1, h2⟩ := ris_up wp.len h.1.2
  exact ⟨l', h1, h2, gp, wp⟩
theorem playedI_up (p : Pl) (l : List Nat) : playedI p (up l) = played p l := by simp [up]
/-- where a part must end, by the hours before -/
def atL (p : Pl) : Nat → Int | 0 => p.beg | k + 1 => wl p k
def atH (p : Pl) : Nat → Int | 0 => p.beg | k + 1 => wh p k
def suBad (p : Pl) (l : List Nat) (k : Nat) (_ : k < 3) : Bool := decide (wl p k - atH p k < pl p l k) || decide (ph p l k < wh p k - atL p k)
def sureP (p : Pl) (l : List Nat) : Bool := okAll 3 (suBad p l)
theorem at_bd {p : Pl} (gp : GP p) (k : Nat) : (-10000 ≤ atL p k ∧ atL p k ≤ 10000) ∧ (-10000 ≤ atH p k ∧ atH p k ≤ 10000) := by
  cases k with
  | zero => have := gp.beg; exact ⟨this, this⟩
  | succ k => have := win_bd gp k; exact ⟨⟨by simp only [atL]; omega, by simp only [atL]; omega⟩, ⟨by simp only [atH]; omega, by simp only [atH]; omega⟩⟩
set_option maxHeartbeats 1000000 in
/-- kelir/night.chosen -/
theorem nchosen_pure (p : Pl) (l : List Int) (hp : p.scenes.length ≤ 1000000) (hl : l.length ≤ 1000000) : APure Tryz.prog 107 [plan p, ints l] (.tup [playedI p l, B (chosenB p l)]) := by
  refine apure_of (rs := [.cell 4 110, .tmp 5]) Tryz.func107 rfl rfl (Nat.le_of_ble_eq_true rfl) (by simp [AV.pureL, AV.pureB, AV.pureE, pureE_map]) (by simp [AV.pureL, AV.pureB, AV.pureE, pureE_map]) fun e0 he0 => ?_
  refine aw_seq (aw_region ?_)
  refine sq_box rfl (lr _) rfl ?_
  refine sq_alloc rfl z110 ?_
  refine asr (lr _) rfl ?_
  refine sq_nil (aw_seq ?_)
  refine aw_drawc [] [15] _ mo (by kernel_rfl) (HSub.mask [1] 0 _) ?_
  refine dc_ev rfl (ev_load_agg (lr _) rfl ty27 rfl) ?_
  refine dc_ev rfl (ev_mv (v := .sl _ _) (lr _)) ?_
  refine dc_ev rfl (ev_build bi110 rfl) ?_
  refine dc_ev rfl (ev_load_agg (lr _) rfl ty27 rfl) ?_
  refine dc_ev rfl (ev_call en85 (lr _) (isplan_pure p hp) ⟨lr _, trivial⟩) ?_
  refine dc_ev rfl (ev_mv (v := .raw _) (lr _)) ?_
  refine dc_split 11 (lr _) (fun g1 => ?_) (fun g1 => ?_)
  · skip
    have g1' := g1
    try simp only [qq] at g1'
    refine dc_yes rfl rfl (less_b g1) rfl (ev_load_agg (lr _) rfl ty27 rfl) ?_
    refine dc_yes rfl rfl (less_b g1) rfl (ev_mv (v := .sl _ _) (lr _)) ?_
    refine dc_yes rfl rfl (less_b g1) rfl (ev_call en139 (lr _) (narescenes_pure p l hp hl) ⟨lr _, lr _, trivial⟩) ?_
    refine dc_ev rfl (ev_pickT (v := .raw _) (less_b g1) (lr _)) ?_
    refine dc_ev rfl (ev_mv (v := .raw _) (lr _)) ?_
    refine dc_split 16 (lr _) (fun g2 => ?_) (fun g2 => ?_)
    · skip
      have g2' := g2
      try simp only [qq] at g2'
      refine dc_yes rfl rfl (less_b g2) rfl (ev_load_agg (lr _) rfl ty27 rfl) ?_
      refine dc_yes rfl rfl (less_b g2) rfl (ev_mv (v := .sl _ _) (lr _)) ?_
      refine dc_yes rfl rfl (less_b g2) rfl (ev_call en140 (lr _) (nischoice_pure p l hp hl) ⟨lr _, lr _, trivial⟩) ?_
      refine dc_ev rfl (ev_pickT (v := .raw _) (less_b g2) (lr _)) ?_
      refine dc_eff rfl rfl (eff_store rfl (lr _) (lr _) rfl rfl ty110 rfl rfl) (by apply HL.sub; repeat' (first | exact HL.nil _ | apply HL.same | apply HL.tok)) ?_
      refine dc_ev rfl (ev_as (v := .raw _) (lr _)) ?_
      refine dc_nil (aw_ret ?_)
      exact retQ_res (vs := [.agg _, .raw _]) rfl rfl ⟨resVar_cell rfl rfl ty110 rfl, resVar_tmp _ _ _, trivial⟩ (less_tup ⟨lr _, less_b (by simp [chosenB, *]), trivial⟩)
    · skip
      have g2' := g2
      try simp only [qq] at g2'
      refine dc_no rfl rfl (less_b g2) rfl rfl ?_
      refine dc_no rfl rfl (less_b g2) rfl rfl ?_
      refine dc_no rfl rfl (less_b g2) rfl rfl ?_
      refine dc_ev rfl (ev_pickF (v := .raw _) (less_b g2) (lr _)) ?_
      refine dc_eff rfl rfl (eff_store rfl (lr _) (lr _) rfl rfl ty110 rfl rfl) (by apply HL.sub; repeat' (first | exact HL.nil _ | apply HL.same | apply HL.tok)) ?_
      refine dc_ev rfl (ev_as (v := .raw _) (lr _)) ?_
      refine dc_nil (aw_ret ?_)
      exact retQ_res (vs := [.agg _, .raw _]) rfl rfl ⟨resVar_cell rfl rfl ty110 rfl, resVar_tmp _ _ _, trivial⟩ (less_tup ⟨lr _, less_b (by simp [chosenB, *]), trivial⟩)
  · skip
    have g1' := g1
    try simp only [qq] at g1'
    refine dc_no rfl rfl (less_b g1) rfl rfl ?_
    refine dc_no rfl rfl (less_b g1) rfl rfl ?_
    refine dc_no rfl rfl (less_b g1) rfl rfl ?_
    refine dc_ev rfl (ev_pickF (v := .raw _) (less_b g1) (lr _)) ?_
    refine dc_ev rfl (ev_mv (v := .raw _) (lr _)) ?_
    refine dc_no rfl rfl (lr _) rfl rfl ?_
    refine dc_no rfl rfl (lr _) rfl rfl ?_
    refine dc_no rfl rfl (lr _) rfl rfl ?_
    refine dc_ev rfl (ev_pickF (v := .raw _) (lr _) (lr _)) ?_
    refine dc_eff rfl rfl (eff_store rfl (lr _) (lr _) rfl rfl ty110 rfl rfl) (by apply HL.sub; repeat' (first | exact HL.nil _ | apply HL.same | apply HL.tok)) ?_
    refine dc_ev rfl (ev_as (v := .raw _) (lr _)) ?_
    refine dc_nil (aw_ret ?_)
    exact retQ_res (vs := [.agg _, .raw _]) rfl rfl ⟨resVar_cell rfl rfl ty110 rfl, resVar_tmp _ _ _, trivial⟩ (less_tup ⟨lr _, less_b (by simp [chosenB, *]), trivial⟩)

set_option maxHeartbeats 1000000 in
/-- (kelir/night.played).sure -/
theorem nsure_pure (p : Pl) (l : List Nat) (gp : GP p) (cv : CV p l) : APure Tryz.prog 123 [played p l] (B (sureP p l)) := by
 refine apure_of (rs := [.tmp 2]) Tryz.func123 rfl rfl (Nat.le_of_ble_eq_true rfl) (by simp [AV.pureL, AV.pureB, AV.pureE, pureE_map]) (rfl) fun e0 he0 => ?_
 refine aw_seq (aw_region ?_)
 refine sq_box rfl (lr _) rfl ?_
 refine asr (lr _) rfl ?_
 refine sq_nil (aw_seq (aw_region ?_))
 refine sq_ev rfl (ev_fieldAddr fo110_0 (lr _)) ?_
 refine sq_ev rfl (ev_fieldAddr fo27_0 (lr _)) ?_
 refine sq_ev rfl (ev_load (lr _) rfl ty3 rfl) ?_
 refine sq_ev rfl (ev_fieldAddr fo110_0 (lr _)) ?_
 refine sq_ev rfl (ev_fieldAddr fo27_0 (lr _)) ?_
 refine sq_ev rfl (ev_load (lr _) rfl ty3 rfl) ?_
 refine sq_ev rfl (ev_build bi23 rfl) ?_
 refine sq_alloc rfl z23 ?_
 refine sq_store rfl (lr _) (lr _) rfl rfl ty23 rfl rfl ?_
 refine sq_nil (aw_seq (aw_seq (aw_region ?_)))
 refine mvr (lr _) rfl ?_
 refine sq_nil (aw_block ?_)
 refine aw_loopk (ι := { k : Nat // k ≤ 3 ∧ ∀ i, (h : i < 3) → i < k → suBad p l i h = false }) [1, 3] (fun i => [(14, I i.1)]) (fun H i => H.set 1 (.cells [I (atL p i.1), I (atH p i.1)])) (fun i => 3 - i.1) (⟨0, Nat.zero_le _, by omega⟩) ⟨lr _, lr _, lr _, trivial⟩ rfl ?_
 rintro ⟨k, hk, hok⟩
 dsimp only [keepS, St.put, sget, slotsOf, List.map_cons, List.map_nil, List.cons_append, List.nil_append, List.length_cons, List.length_nil, Nat.reduceBEq, Nat.reduceAdd, cond_true, cond_false]
 refine aw_seq (aw_region ?_)
 refine sq_ev rfl (ev_lss (lr _) (lr _)) ?_
 refine sq_nil (aw_seq ?_)
 refine aw_cond (lr _) (fun c1 => ?_) (fun c1 => ?_)
 ·
  have c1' := c1
  try simp only [qq] at c1'
  have hk3 : k < 3 := by omega
  have b1 := at_bd gp k
  have b2 : 0 ≤ pl p l k ∧ pl p l k ≤ 10000000 := lsum_bd gp (ofP_cv cv _)
  have b3 : 0 ≤ ph p l k ∧ ph p l k ≤ 10000000 := hsum_bd gp (ofP_cv cv _)
  have b4 := win_bd gp k
  refine aw_skip (aw_seq (aw_block (aw_seq (aw_region ?_))))
  refine mvr (lr _) rfl ?_
  refine asr (lr _) rfl ?_
  refine sq_nil (aw_seq ?_)
  refine aw_draw 11 mo (by kernel_rfl) ?_
  refine dr_ev rfl (ev_load_agg (lr _) rfl ty110 rfl) ?_
  refine dr_ev rfl (ev_load_agg (lr _) rfl ty110 rfl) ?_
  refine dr_ev rfl (ev_mv (v := .raw _) (lr _)) ?_
  refine dr_ev rfl (ev_call en136 (lr _) (nof_pure p l (k : Int) gp cv) ⟨lr _, lr _, trivial⟩) ?_
  refine dr_ev rfl (ev_call en135 (lr _) (nlastsP_pure p l k gp cv) ⟨lr _, lr _, trivial⟩) ?_
  refine dr_ev rfl (ev_fieldAddr fo110_0 (lr _)) ?_
  refine dr_ev rfl (ev_load_agg (lr _) rfl ty27 rfl) ?_
  refine dr_ev rfl (ev_mv (v := .raw _) (lr _)) ?_
  refine dr_ev rfl (ev_call en142 (lr _) (nwindow_pure p k hk3) ⟨lr _, lr _, trivial⟩) ?_
  refine dr_alloc rfl z23 ?_
  refine dr_alloc rfl z23 ?_
  refine dr_end ?_
  refine sq_store rfl (lr _) (lr _) rfl rfl ty23 rfl rfl ?_
  refine sq_store rfl (lr _) (lr _) rfl rfl ty23 rfl rfl ?_
  refine sq_nil (aw_seq (aw_seq (aw_region ?_)))
  refine sq_ev rfl (ev_fieldAddr fo23_0 (lr _)) ?_
  refine sq_ev rfl (ev_load (lr _) rfl ty3 rfl) ?_
  refine sq_ev rfl (ev_fieldAddr fo23_1 (lr _)) ?_
  refine sq_ev rfl (ev_load (lr _) rfl ty3 rfl) ?_
  refine sq_ev rfl (ev_sub (lr _) (lr _) (wr (by omega) (by omega))) ?_
  refine sq_ev rfl (ev_fieldAddr fo23_0 (lr _)) ?_
  refine sq_ev rfl (ev_load (lr _) rfl ty3 rfl) ?_
  refine sq_ev rfl (ev_lss (lr _) (lr _)) ?_
  refine mvr (lr _) rfl ?_
  refine sq_split 34 (lr _) (fun g2 => ?_) (fun g2 => ?_)
  ·
   have g2' := g2
   try simp only [qq] at g2'
   refine sq_no rfl rfl (less_b g2) rfl rfl ?_
   refine sq_no rfl rfl (less_b g2) rfl rfl ?_
   refine sq_no rfl rfl (less_b g2) rfl rfl ?_
   refine sq_no rfl rfl (less_b g2) rfl rfl ?_
   refine sq_no rfl rfl (less_b g2) rfl rfl ?_
   refine sq_no rfl rfl (less_b g2) rfl rfl ?_
   refine sq_no rfl rfl (less_b g2) rfl rfl ?_
   refine sq_no rfl rfl (less_b g2) rfl rfl ?_
   refine sq_ev rfl (ev_pickT (v := .raw _) (less_b g2) (lr _)) ?_
   refine sq_nil ?_
   refine aw_true (lr _) ?_
   refine aw_seq (aw_region ?_)
   refine asr (lr _) rfl ?_
   refine sq_nil (aw_ret ?_)
   exact retQ_pure (v := .raw _) rfl rfl (Less.eq (by rw [sureP, okAll_bad (i := k) (by omega) (by first | (simp [suBad, *]; done) | (simp_all [suBad]; done))]))
  ·
   have g2' := g2
   try simp only [qq] at g2'
   refine sq_yes rfl rfl (less_b g2) rfl (ev_fieldAddr fo23_1 (lr _)) ?_
   refine sq_yes rfl rfl (less_b g2) rfl (ev_load (lr _) rfl ty3 rfl) ?_
   refine sq_yes rfl rfl (less_b g2) rfl (ev_fieldAddr fo23_0 (lr _)) ?_
   refine sq_yes rfl rfl (less_b g2) rfl (ev_load (lr _) rfl ty3 rfl) ?_
   refine sq_yes rfl rfl (less_b g2) rfl (ev_sub (lr _) (lr _) (wr (by omega) (by omega))) ?_
   refine sq_yes rfl rfl (less_b g2) rfl (ev_fieldAddr fo23_1 (lr _)) ?_
   refine sq_yes rfl rfl (less_b g2) rfl (ev_load (lr _) rfl ty3 rfl) ?_
   refine sq_yes rfl rfl (less_b g2) rfl (ev_gtr (lr _) (lr _)) ?_
   refine sq_ev rfl (ev_pickF (v := .raw _) (less_b g2) (lr _)) ?_
   refine sq_nil ?_
   refine aw_cond (lr _) (fun c3 => ?_) (fun c3 => ?_)
   ·
    have c3' := c3
    try simp only [qq] at c3'
    refine aw_seq (aw_region ?_)
    refine asr (lr _) rfl ?_
    refine sq_nil (aw_ret ?_)
    exact retQ_pure (v := .raw _) rfl rfl (Less.eq (by rw [sureP, okAll_bad (i := k) (by omega) (by first | (simp [suBad, *]; done) | (simp_all [suBad]; done))]))
   ·
    have c3' := c3
    try simp only [qq] at c3'
    refine aw_skip (aw_region ?_)
    refine sq_ev rfl (ev_load_agg (lr _) rfl ty23 rfl) ?_
    refine sq_store rfl (lr _) (lr _) rfl rfl ty23 rfl rfl ?_
    refine sq_nil (aw_region ?_)
    refine sq_ev rfl (ev_add (lr _) (lr _) (wr (by omega) (by omega))) ?_
    refine mvr (lr _) rfl ?_
    refine sq_nil ?_
    have hgood : suBad p l k (by omega) = false := by first | (simp [suBad, *]; done) | (simp_all [suBad]; done)
    exact ⟨⟨k + 1, by omega, fun i h hi => (by by_cases e : i = k; (subst e; exact hgood); exact hok i h (by omega))⟩, by simp only; omega, Sub.fin 2 ⟨lr _, lr _, lr _, trivial⟩ rfl (by simp [slotsIn, objsIn, sget, keepS, AObj.inB, AV.inB, AV.inL, AV.inE, inE_map, inE_ints, inE_sc, -List.map_append, -List.map_take, -List.map_map]) (by simp [slotsIn, objsIn, sget, keepS, AObj.inB, AV.inB, AV.inL, AV.inE, inE_map, inE_ints, inE_sc, -List.map_append, -List.map_take, -List.map_map]) (by simp [he0])⟩
 ·
  have c1' := c1
  try simp only [qq] at c1'
  refine aw_exit (aw_seq (aw_region ?_))
  refine asr (lr _) rfl ?_
  refine sq_nil (aw_ret ?_)
  exact retQ_pure (v := .raw _) rfl rfl (Less.eq (by rw [sureP, okAll_end hk c1' hok]))


end Go.Proofs.YtjghdbdiejaacaaGreatDoor

namespace Go.Proofs.YtjghdbdiejaacaaGreatDoor
open Go Go.Ab Ni
theorem en106 : Ent Tryz.prog 106 := Ent.of Tryz.func106 (by kernel_rfl) rfl
theorem en107 : Ent Tryz.prog 107 := Ent.of Tryz.func107 (by kernel_rfl) rfl
theorem en123 : Ent Tryz.prog 123 := Ent.of Tryz.func123 (by kernel_rfl) rfl
theorem fo132_0 : fOff Tryz.prog 132 0 = some (0, 3) := by kernel_rfl
theorem fo132_1 : fOff Tryz.prog 132 1 = some (1, 63) := by kernel_rfl
theorem sf57 : SlFact Tryz.prog 57 92 1 8 := SlFact.of (by kernel_rfl)
theorem ty63 : tySz Tryz.prog 63 = some (false, 1) := by kernel_rfl

theorem eup (l : List Nat) : (up l).map (fun x => [I x]) = l.map (fun (x : Nat) => [I x]) := by simp [up]
def sureAV (p : Pl) (l : List Int) : AV := if chosenB p l = true then .tup [B (sureP p (dn l)), I 0] else .tup [B false, I 2]
def failsAV (p : Pl) (l : List Int) : AV := if chosenB p l = true then (if canP p (dn l) = true then .tup [I 0, I 0, I 5] else .tup [I (fk p (dn l)), I (ff p (dn l)), I 0]) else .tup [I 0, I 0, I 2]
def playedAV (p : Pl) : AV := if PlOK p = true then (if (choicesC p).length = 0 then .tup [.sl 1 [], I 7] else .tup [ints (wordsT p p.scenes.length), I 0]) else .tup [.sl 1 [], I 2]
abbrev spans (l : List (Int × Int)) : AV := .sl 2 (l.map fun x => [I x.1, I x.2])
def endsAV (p : Pl) : AV := if PlOK p = true then (if (choicesC p).length = 0 then .tup [.sl 2 [], I 7] else .tup [spans (endsT p 3), I 0]) else .tup [.sl 2 [], I 2]
theorem sureAV_pure (p : Pl) (l : List Int) : (sureAV p l).pureB = true := by unfold sureAV; split <;> rfl
theorem failsAV_pure (p : Pl) (l : List Int) : (failsAV p l).pureB = true := by unfold failsAV; (repeat' split) <;> rfl
theorem playedAV_pure (p : Pl) : (playedAV p).pureB = true := by unfold playedAV; (repeat' split) <;> simp [AV.pureB, AV.pureL, AV.pureE, pureE_map]
theorem endsAV_pure (p : Pl) : (endsAV p).pureB = true := by unfold endsAV; (repeat' split) <;> simp [AV.pureB, AV.pureL, AV.pureE, pureE_map]
theorem nwiders_pure (a b c d : Int) (m : Bool) : APure Tryz.prog 97 [.agg [I a, I b], B m, .agg [I c, I d]] (.agg [I (if m then min a c else c), I (if m then max b d else d)]) := by
  have h := nwider_pure a b c d m
  cases m <;> exact h
theorem can_fwd {p : Pl} {l : List Nat} (gp : GP p) (wp : WP p) (h : l ∈ choicesC p) : ffail p l = none :=
  (can_ffail wp (choicesC_mem gp l h)).1 (List.mem_filter.1 h).2
theorem ncontains_nats (l : List Nat) (v : Nat) (hl : l.length ≤ 1000000) : APure Tryz.prog 106 [nats l, I v] (B (decide (v ∈ l))) := by
  have h := ncontains_pure (up l) v (by simpa [up] using hl)
  have e1 : decide ((v : Int) ∈ up l) = decide (v ∈ l) := by
    refine decide_eq_decide.2 ?_
    simp only [up, List.mem_map]
    exact ⟨fun ⟨a, h1, h2⟩ => by
      obtain rfl : a = v := by omega
      exact h1, fun h => ⟨v, h, rfl⟩⟩
  have e2 : ints (up l) = nats l := by simp [up]
  rw [e1, e2] at h; exact h
set_option maxHeartbeats 1000000 in
/-- kelir/night.Sure -/
theorem nSure_pure (p : Pl) (l : List Int) (hp : p.scenes.length ≤ 1000000) (hl : l.length ≤ 1000000) : APure Tryz.prog 64 [plan p, ints l] (sureAV p l) := by
  refine apure_of (rs := [.tmp 4, .tmp 5]) Tryz.func64 rfl rfl (Nat.le_of_ble_eq_true rfl) (by simp [AV.pureL, AV.pureB, AV.pureE, pureE_map]) (sureAV_pure p l) fun e0 he0 => ?_
  refine aw_seq (aw_region ?_)
  refine sq_box rfl (lr _) rfl ?_
  refine asr (lr _) rfl ?_
  refine asr (lr _) rfl ?_
  refine sq_nil (aw_seq (aw_region ?_))
  refine sq_ev rfl (ev_load_agg (lr _) rfl ty27 rfl) ?_
  refine sq_ev rfl (ev_mv (v := .sl _ _) (lr _)) ?_
  refine sq_ev rfl (ev_call en107 (lr _) (nchosen_pure p l hp hl) ⟨lr _, lr _, trivial⟩) ?_
  refine sq_ev rfl (ev_mv (v := .tup _) (lr _)) ?_
  refine sq_ev rfl (ev_extract (lr _) rfl) ?_
  refine sq_ev rfl (ev_extract (lr _) rfl) ?_
  refine sq_alloc rfl z110 ?_
  refine sq_store rfl (lr _) (lr _) rfl rfl ty110 rfl rfl ?_
  refine asr (lr _) rfl ?_
  refine sq_nil (aw_seq (aw_seq (aw_region ?_)))
  refine mvr (lr _) rfl ?_
  refine sq_ev rfl (ev_not (lr _)) ?_
  refine sq_nil ?_
  refine aw_cond (lr _) (fun c1 => ?_) (fun c1 => ?_)
  · skip
    have c1' := c1
    try simp only [qq] at c1'
    refine aw_seq (aw_region ?_)
    refine asr (lr _) rfl ?_
    refine asr (lr _) rfl ?_
    refine sq_nil (aw_ret ?_)
    exact retQ_pure (v := .tup [.raw _, .raw _]) rfl rfl (Less.eq (by simp [sureAV, c1']))
  · skip
    have c1' := c1
    try simp only [qq] at c1'
    obtain ⟨l', rfl, cv, gp, wp⟩ := chosen_up c1'
    refine aw_skip (aw_seq (aw_region ?_))
    refine sq_ev rfl (ev_load_agg (lr _) rfl ty110 rfl) ?_
    refine sq_ev rfl (ev_call en123 (lr _) (nsure_pure p l' gp cv) ⟨Less.eq (playedI_up p l'), trivial⟩) ?_
    refine asr (lr _) rfl ?_
    refine asr (lr _) rfl ?_
    refine sq_nil (aw_ret ?_)
    exact retQ_pure (v := .tup [.raw _, .raw _]) rfl rfl (Less.eq (by simp [sureAV, c1', dn_up]))

set_option maxHeartbeats 1000000 in
/-- kelir/night.Fails -/
theorem nFails_pure (p : Pl) (l : List Int) (hp : p.scenes.length ≤ 1000000) (hl : l.length ≤ 1000000) : APure Tryz.prog 46 [plan p, ints l] (failsAV p l) := by
 refine apure_of (rs := [.tmp 4, .tmp 5, .tmp 6]) Tryz.func46 rfl rfl (Nat.le_of_ble_eq_true rfl) (by simp [AV.pureL, AV.pureB, AV.pureE, pureE_map]) (failsAV_pure p l) fun e0 he0 => ?_
 refine aw_seq (aw_region ?_)
 refine sq_box rfl (lr _) rfl ?_
 refine asr (lr _) rfl ?_
 refine asr (lr _) rfl ?_
 refine asr (lr _) rfl ?_
 refine sq_nil (aw_seq (aw_region ?_))
 refine sq_ev rfl (ev_load_agg (lr _) rfl ty27 rfl) ?_
 refine sq_ev rfl (ev_mv (v := .sl _ _) (lr _)) ?_
 refine sq_ev rfl (ev_call en107 (lr _) (nchosen_pure p l hp hl) ⟨lr _, lr _, trivial⟩) ?_
 refine sq_ev rfl (ev_mv (v := .tup _) (lr _)) ?_
 refine sq_ev rfl (ev_extract (lr _) rfl) ?_
 refine sq_ev rfl (ev_extract (lr _) rfl) ?_
 refine sq_alloc rfl z110 ?_
 refine sq_store rfl (lr _) (lr _) rfl rfl ty110 rfl rfl ?_
 refine asr (lr _) rfl ?_
 refine sq_nil (aw_seq (aw_seq (aw_region ?_)))
 refine mvr (lr _) rfl ?_
 refine sq_ev rfl (ev_not (lr _)) ?_
 refine sq_nil ?_
 refine aw_cond (lr _) (fun c1 => ?_) (fun c1 => ?_)
 ·
  have c1' := c1
  try simp only [qq] at c1'
  refine aw_seq (aw_region ?_)
  refine asr (lr _) rfl ?_
  refine asr (lr _) rfl ?_
  refine asr (lr _) rfl ?_
  refine sq_nil (aw_ret ?_)
  exact retQ_pure (v := .tup [.raw _, .raw _, .raw _]) rfl rfl (Less.eq (by simp [failsAV, c1']))
 ·
  have c1' := c1
  try simp only [qq] at c1'
  obtain ⟨l', rfl, cv, gp, wp⟩ := chosen_up c1'
  refine aw_skip (aw_seq (aw_region ?_))
  refine sq_ev rfl (ev_makeFunc) ?_
  simp only [playedI, ints, eup]
  refine sq_call (args := [.fn (.func 109) [] [.ptr 1 0]]) rfl en108 (lr _) ⟨lr _, trivial⟩ (natt109_call (i := 1) (H := [.cells (planC p), .cells (playedC p l')]) gp cv rfl (by simp [objsIn, AObj.inB, AV.inB, AV.inL, AV.inE, inE_map, inE_ints, inE_sc, -List.map_append, -List.map_take, -List.map_map])) ?_ (by rintro v H' ⟨_, h⟩; cases h)
  rintro _ _ ⟨rfl, h⟩; cases h
  refine sq_ev rfl (ev_mv (v := .tup _) (lr _)) ?_
  refine sq_ev rfl (ev_extract (lr _) rfl) ?_
  refine sq_ev rfl (ev_extract (lr _) rfl) ?_
  refine sq_alloc rfl z132 ?_
  refine sq_store rfl (lr _) (lr _) rfl rfl ty132 rfl rfl ?_
  refine asr (lr _) rfl ?_
  refine sq_nil (aw_seq (aw_seq (aw_region ?_)))
  refine mvr (lr _) rfl ?_
  refine sq_ev rfl (ev_eql (lr _) (lr _)) ?_
  refine sq_nil ?_
  refine aw_cond (lr _) (fun c2 => ?_) (fun c2 => ?_)
  ·
   have c2' := c2
   try simp only [qq] at c2'
   refine aw_seq (aw_region ?_)
   refine asr (lr _) rfl ?_
   refine asr (lr _) rfl ?_
   refine asr (lr _) rfl ?_
   refine sq_nil (aw_ret ?_)
   exact retQ_pure (v := .tup [.raw _, .raw _, .raw _]) rfl rfl (Less.eq (by simp [failsAV, c1', dn_up, ← fe_can, c2']))
  ·
   have c2' := c2
   try simp only [qq] at c2'
   refine aw_skip (aw_seq ?_)
   refine aw_draw 7 mo (by kernel_rfl) ?_
   refine dr_ev rfl (ev_fieldAddr fo132_0 (lr _)) ?_
   refine dr_ev rfl (ev_load (lr _) rfl ty3 rfl) ?_
   refine dr_ev rfl (ev_fieldAddr fo132_1 (lr _)) ?_
   refine dr_ev rfl (ev_load (lr _) rfl ty63 rfl) ?_
   refine dr_ev rfl (ev_as (v := .raw _) (lr _)) ?_
   refine dr_ev rfl (ev_as (v := .raw _) (lr _)) ?_
   refine dr_ev rfl (ev_as (v := .raw _) (lr _)) ?_
   refine dr_end (sq_nil (aw_ret ?_))
   exact retQ_pure (v := .tup [.raw _, .raw _, .raw _]) rfl rfl (Less.eq (by simp [failsAV, c1', dn_up, ← fe_can, c2']))

set_option maxHeartbeats 1000000 in
/-- (kelir/night.played).fits -/
theorem nfits_pure (p : Pl) (l : List Nat) (hs : List Int) (gp : GP p) (cv : CV p l) (hb : ∀ x ∈ hs, -1000000000 ≤ x ∧ x ≤ 1000000000) (hl : hs.length ≤ 1000000) : APure Tryz.prog 130 [played p l, ints hs] (B (fitsP p l hs)) := by
 refine apure_of (rs := [.tmp 4]) Tryz.func130 rfl rfl (Nat.le_of_ble_eq_true rfl) (by simp [AV.pureL, AV.pureB, AV.pureE, pureE_map]) (rfl) fun e0 he0 => ?_
 refine aw_seq (aw_region ?_)
 refine sq_box rfl (lr _) rfl ?_
 refine asr (lr _) rfl ?_
 refine sq_nil (aw_seq (aw_region ?_))
 refine sq_ev rfl (ev_fieldAddr fo110_0 (lr _)) ?_
 refine sq_ev rfl (ev_fieldAddr fo27_0 (lr _)) ?_
 refine sq_ev rfl (ev_load (lr _) rfl ty3 rfl) ?_
 refine asr (lr _) rfl ?_
 refine sq_nil (aw_seq (aw_seq (aw_region ?_)))
 refine sq_ev rfl (ev_mv (v := .sl _ _) (lr _)) ?_
 refine sq_ev rfl (ev_len_map sl34 (lr _)) ?_
 refine mvr (lr _) rfl ?_
 refine sq_nil (aw_block ?_)
 refine aw_loopk (ι := { k : Nat // k ≤ hs.length ∧ ∀ i, (h : i < hs.length) → i < k → fitBad p l hs i h = false }) [2, 12, 13] (fun i => [(14, I i.1), (5, I (atF p hs i.1))]) (fun H i => H) (fun i => hs.length - i.1) (⟨0, Nat.zero_le _, by omega⟩) ⟨lr _, lr _, lr _, lr _, lr _, trivial⟩ rfl ?_
 rintro ⟨k, hk, hok⟩
 dsimp only [keepS, St.put, sget, slotsOf, List.map_cons, List.map_nil, List.cons_append, List.nil_append, List.length_cons, List.length_nil, Nat.reduceBEq, Nat.reduceAdd, cond_true, cond_false]
 refine aw_seq (aw_region ?_)
 refine sq_ev rfl (ev_lss (lr _) (lr _)) ?_
 refine sq_nil (aw_seq ?_)
 refine aw_cond (lr _) (fun c1 => ?_) (fun c1 => ?_)
 ·
  have c1' := c1
  try simp only [qq] at c1'
  have hk' : k < hs.length := by omega
  have b1 := atF_bd gp hb k
  have b2 := hb _ (List.getElem_mem hk')
  refine aw_skip (aw_seq (aw_block (aw_seq (aw_region ?_))))
  refine mvr (lr _) rfl ?_
  refine sq_ev rfl (ev_index_map sl34 (lr _) (lr _) rfl (by omega)) ?_
  refine sq_ev rfl (ev_load_i (lr _) ty3 rfl) ?_
  refine asr (lr _) rfl ?_
  refine asr (lr _) rfl ?_
  refine sq_nil (aw_seq ?_)
  refine aw_draw 6 mo (by kernel_rfl) ?_
  refine dr_ev rfl (ev_load_agg (lr _) rfl ty110 rfl) ?_
  refine dr_ev rfl (ev_load_agg (lr _) rfl ty110 rfl) ?_
  refine dr_ev rfl (ev_mv (v := .raw _) (lr _)) ?_
  refine dr_ev rfl (ev_call en136 (lr _) (nof_pure p l (k : Int) gp cv) ⟨lr _, lr _, trivial⟩) ?_
  refine dr_ev rfl (ev_call en135 (lr _) (nlastsP_pure p l k gp cv) ⟨lr _, lr _, trivial⟩) ?_
  refine dr_alloc rfl z23 ?_
  refine dr_end ?_
  refine sq_store rfl (lr _) (lr _) rfl rfl ty23 rfl rfl ?_
  refine sq_nil (aw_seq (aw_seq (aw_region ?_)))
  refine mvr (lr _) rfl ?_
  refine mvr (lr _) rfl ?_
  refine sq_ev rfl (ev_sub (lr _) (lr _) (wr (by omega) (by omega))) ?_
  refine sq_ev rfl (ev_fieldAddr fo23_0 (lr _)) ?_
  refine sq_ev rfl (ev_load (lr _) rfl ty3 rfl) ?_
  refine sq_ev rfl (ev_fieldAddr fo23_1 (lr _)) ?_
  refine sq_ev rfl (ev_load (lr _) rfl ty3 rfl) ?_
  refine sq_ev rfl (ev_call en122 (lr _) (nin_pure _ _ _) ⟨lr _, lr _, lr _, trivial⟩) ?_
  refine sq_ev rfl (ev_not (lr _)) ?_
  refine sq_nil ?_
  refine aw_cond (lr _) (fun c2 => ?_) (fun c2 => ?_)
  ·
   have c2' := c2
   try simp only [qq] at c2'
   refine aw_seq (aw_region ?_)
   refine asr (lr _) rfl ?_
   refine sq_nil (aw_ret ?_)
   exact retQ_pure (v := .raw _) rfl rfl (Less.eq (by rw [fitsP, okAll_bad (i := k) (by omega) (by first | (simp [fitBad, inn, *]; done) | (simp_all [fitBad, inn]; done))]))
  ·
   have c2' := c2
   try simp only [qq] at c2'
   refine aw_skip (aw_region ?_)
   refine mvr (lr _) rfl ?_
   refine asr (lr _) rfl ?_
   refine sq_nil (aw_region ?_)
   refine sq_ev rfl (ev_add (lr _) (lr _) (wr (by omega) (by omega))) ?_
   refine mvr (lr _) rfl ?_
   refine sq_nil ?_
   have hgood : fitBad p l hs k (by omega) = false := by first | (simp [fitBad, inn, *]; done) | (simp_all [fitBad, inn]; done)
   exact ⟨⟨k + 1, by omega, fun i h hi => (by by_cases e : i = k; (subst e; exact hgood); exact hok i h (by omega))⟩, by simp only; omega, Sub.fin 1 ⟨lr _, less_int (atF_succ hk').symm, lr _, lr _, lr _, trivial⟩ rfl (by simp [slotsIn, objsIn, sget, keepS, AObj.inB, AV.inB, AV.inL, AV.inE, inE_map, inE_ints, inE_sc, -List.map_append, -List.map_take, -List.map_map]) (by simp [slotsIn, objsIn, sget, keepS, AObj.inB, AV.inB, AV.inL, AV.inE, inE_map, inE_ints, inE_sc, -List.map_append, -List.map_take, -List.map_map]) (by simp [he0])⟩
 ·
  have c1' := c1
  try simp only [qq] at c1'
  refine aw_exit (aw_seq (aw_region ?_))
  refine asr (lr _) rfl ?_
  refine sq_nil (aw_ret ?_)
  exact retQ_pure (v := .raw _) rfl rfl (Less.eq (by rw [fitsP, okAll_end hk c1' hok]))

set_option maxHeartbeats 2000000 in
/-- kelir/night.Played -/
theorem nPlayed_pure (p : Pl) (hl0 : p.scenes.length ≤ 1000000) : APure Tryz.prog 42 [plan p] (playedAV p) := by
 refine apure_of (rs := [.tmp 2, .tmp 3]) Tryz.func42 rfl rfl (Nat.le_of_ble_eq_true rfl) (by simp [AV.pureL, AV.pureB, AV.pureE, pureE_map]) (playedAV_pure p) fun e0 he0 => ?_
 refine aw_seq (aw_region ?_)
 refine sq_box rfl (lr _) rfl ?_
 refine asr (lr _) rfl ?_
 refine asr (lr _) rfl ?_
 refine sq_nil (aw_seq (aw_seq (aw_region ?_)))
 refine sq_ev rfl (ev_load_agg (lr _) rfl ty27 rfl) ?_
 refine sq_ev rfl (ev_call en85 (lr _) (isplan_pure p hl0) ⟨lr _, trivial⟩) ?_
 refine sq_ev rfl (ev_not (lr _)) ?_
 refine sq_nil ?_
 refine aw_cond (lr _) (fun c1 => ?_) (fun c1 => ?_)
 ·
  have c1' := c1
  try simp only [qq] at c1'
  refine aw_seq (aw_region ?_)
  refine asr (lr _) rfl ?_
  refine asr (lr _) rfl ?_
  refine sq_nil (aw_ret ?_)
  exact retQ_pure (v := .tup [.raw _, .raw _]) rfl rfl (Less.trans (b := .tup [.sl 1 [], I 2]) (less_tup ⟨less_nil 1, lr _, trivial⟩) (Less.eq (by simp [playedAV, c1'])))
 ·
  have c1' := c1
  try simp only [qq] at c1'
  obtain ⟨gp, wp⟩ := gp_of_ok c1'
  refine aw_skip (aw_seq (aw_region ?_))
  refine sq_ev rfl (ev_load_agg (lr _) rfl ty27 rfl) ?_
  refine sq_ev rfl (ev_call en86 (lr _) (nplayablew_pure gp wp) ⟨lr _, trivial⟩) ?_
  refine sq_ev rfl (ev_as (v := .sl _ _) (lr _)) ?_
  refine sq_nil (aw_seq (aw_seq (aw_region ?_)))
  refine sq_ev rfl (ev_mv (v := .sl _ _) (lr _)) ?_
  refine sq_ev rfl (ev_len_map sl107 (lr _)) ?_
  refine sq_ev rfl (ev_eql (lr _) (lr _)) ?_
  refine sq_nil ?_
  refine aw_cond (lr _) (fun c2 => ?_) (fun c2 => ?_)
  ·
   have c2' := c2
   try simp only [qq] at c2'
   refine aw_seq (aw_region ?_)
   refine asr (lr _) rfl ?_
   refine asr (lr _) rfl ?_
   refine sq_nil (aw_ret ?_)
   exact retQ_pure (v := .tup [.raw _, .raw _]) rfl rfl (Less.trans (b := .tup [.sl 1 [], I 7]) (less_tup ⟨less_nil 1, lr _, trivial⟩) (Less.eq (by rw [playedAV, if_pos c1', if_pos (by omega)])))
  ·
   have c2' := c2
   try simp only [qq] at c2'
   refine aw_skip (aw_seq (aw_region ?_))
   refine asr (lr _) rfl ?_
   refine sq_nil (aw_seq (aw_seq (aw_region ?_)))
   refine sq_ev rfl (ev_fieldAddr fo27_3 (lr _)) ?_
   refine sq_ev rfl (ev_load (lr _) rfl ty25 rfl) ?_
   refine sq_ev rfl (ev_len_map sl25 (lr _)) ?_
   refine mvr (lr _) rfl ?_
   refine sq_nil (aw_block ?_)
   refine aw_sub (sub_token 5 1 (lr _)) ?_
   refine aw_loopk (ι := { k : Nat // k ≤ p.scenes.length }) [4, 20] (fun i => [(21, I i.1), (5, .own 1 1 ((wordsT p i.1).map fun x => [I x]))]) (fun H i => H.set 1 (.tok ((wordsT p i.1).map fun x => [I x]).length)) (fun i => p.scenes.length - i.1) (⟨0, Nat.zero_le _⟩) ⟨lr _, lr _, lr _, lr _, trivial⟩ rfl ?_
   rintro ⟨k, hk⟩
   dsimp only [keepS, St.put, sget, slotsOf, List.map_cons, List.map_nil, List.cons_append, List.nil_append, List.length_cons, List.length_nil, Nat.reduceBEq, Nat.reduceAdd, cond_true, cond_false]
   have hcl := choicesC_len gp
   have hwl := wordsT_len p k
   refine aw_seq (aw_region ?_)
   refine sq_ev rfl (ev_lss (lr _) (lr _)) ?_
   refine sq_nil (aw_seq ?_)
   refine aw_cond (lr _) (fun c3 => ?_) (fun c3 => ?_)
   ·
    have c3' := c3
    try simp only [qq] at c3'
    have hk' : k < p.scenes.length := by omega
    refine aw_skip (aw_seq (aw_block (aw_seq (aw_region ?_))))
    refine mvr (lr _) rfl ?_
    refine asr (lr _) rfl ?_
    refine sq_nil (aw_seq (aw_region ?_))
    refine asr (lr _) rfl ?_
    refine sq_nil (aw_seq (aw_seq (aw_region ?_)))
    refine sq_ev rfl (ev_mv (v := .sl _ _) (lr _)) ?_
    refine sq_ev rfl (ev_len_map sl107 (lr _)) ?_
    refine mvr (lr _) rfl ?_
    refine sq_nil (aw_block ?_)
    refine aw_loopk (ι := { j : Nat // j ≤ (choicesC p).length }) [4, 5, 6, 20, 21, 24, 25] (fun i => [(26, I i.1), (7, I (cntT p k i.1 : Int))]) (fun H i => H) (fun i => (choicesC p).length - i.1) (⟨0, Nat.zero_le _⟩) ⟨lr _, lr _, lr _, lr _, lr _, lr _, lr _, lr _, lr _, trivial⟩ rfl ?_
    rintro ⟨j, hj⟩
    dsimp only [keepS, St.put, sget, slotsOf, List.map_cons, List.map_nil, List.cons_append, List.nil_append, List.length_cons, List.length_nil, Nat.reduceBEq, Nat.reduceAdd, cond_true, cond_false]
    have hct := cntT_le p k j
    refine aw_seq (aw_region ?_)
    refine sq_ev rfl (ev_lss (lr _) (lr _)) ?_
    refine sq_nil (aw_seq ?_)
    refine aw_cond (lr _) (fun c4 => ?_) (fun c4 => ?_)
    ·
     have c4' := c4
     try simp only [qq] at c4'
     have hj' : j < (choicesC p).length := by omega
     refine aw_skip (aw_seq (aw_block (aw_seq (aw_region ?_))))
     refine sq_ev rfl (ev_index_map sl107 (lr _) (lr _) rfl (by omega)) ?_
     refine sq_ev rfl (ev_load_agg_i (lr _) ty110 (Nat.le_of_ble_eq_true rfl)) ?_
     refine sq_alloc rfl z110 ?_
     refine sq_store rfl (lr _) (lr _) rfl rfl ty110 rfl rfl ?_
     refine sq_nil (aw_seq (aw_region ?_))
     refine sq_ev rfl (ev_fieldAddr fo110_1 (lr _)) ?_
     refine sq_ev rfl (ev_load (lr _) rfl ty34 rfl) ?_
     refine mvr (lr _) rfl ?_
     refine sq_ev rfl (ev_call en106 (lr _) (ncontains_nats (choicesC p)[j] k (by have := (choicesC_mem gp _ (List.getElem_mem hj')).len; omega)) ⟨lr _, lr _, trivial⟩) ?_
     refine sq_nil ?_
     refine aw_cond (lr _) (fun c5 => ?_) (fun c5 => ?_)
     ·
      have c5' := c5
      try simp only [qq] at c5'
      have eC : (cntT p k j : Int) + 1 = cntT p k (j + 1) := by unfold cntT; rw [filter_take_succ _ hj', if_pos (by simpa using c5')]; simp
      refine aw_region ?_
      refine mvr (lr _) rfl ?_
      refine sq_ev rfl (ev_add (lr _) (lr _) (wr (by omega) (by omega))) ?_
      refine asr (lr _) rfl ?_
      refine sq_nil (aw_region ?_)
      refine sq_ev rfl (ev_add (lr _) (lr _) (wr (by omega) (by omega))) ?_
      refine mvr (lr _) rfl ?_
      refine sq_nil ?_
      exact ⟨⟨j + 1, by omega⟩, by simp only; omega, Sub.fin 2 ⟨lr _, (by exact less_int eC), lr _, lr _, lr _, lr _, lr _, lr _, lr _, trivial⟩ rfl (by simp [slotsIn, objsIn, sget, keepS, AObj.inB, AV.inB, AV.inL, AV.inE, inE_map, inE_ints, inE_sc, -List.map_append, -List.map_take, -List.map_map]) (by simp [slotsIn, objsIn, sget, keepS, AObj.inB, AV.inB, AV.inL, AV.inE, inE_map, inE_ints, inE_sc, -List.map_append, -List.map_take, -List.map_map]) (by simp [he0])⟩
     ·
      have c5' := c5
      try simp only [qq] at c5'
      have eC : (cntT p k j : Int) = cntT p k (j + 1) := by unfold cntT; rw [filter_take_succ _ hj', if_neg (by simpa using c5')]; simp
      refine aw_skip (aw_region ?_)
      refine sq_ev rfl (ev_add (lr _) (lr _) (wr (by omega) (by omega))) ?_
      refine mvr (lr _) rfl ?_
      refine sq_nil ?_
      exact ⟨⟨j + 1, by omega⟩, by simp only; omega, Sub.fin 2 ⟨lr _, (by exact less_int eC), lr _, lr _, lr _, lr _, lr _, lr _, lr _, trivial⟩ rfl (by simp [slotsIn, objsIn, sget, keepS, AObj.inB, AV.inB, AV.inL, AV.inE, inE_map, inE_ints, inE_sc, -List.map_append, -List.map_take, -List.map_map]) (by simp [slotsIn, objsIn, sget, keepS, AObj.inB, AV.inB, AV.inL, AV.inE, inE_map, inE_ints, inE_sc, -List.map_append, -List.map_take, -List.map_map]) (by simp [he0])⟩
    ·
     have c4' := c4
     try simp only [qq] at c4'
     obtain rfl : j = (choicesC p).length := by omega
     refine aw_exit (aw_seq (aw_region ?_))
     refine mvr (lr _) rfl ?_
     refine sq_nil (aw_block (aw_seq (aw_region ?_)))
     refine sq_ev rfl (ev_eql (lr _) (lr _)) ?_
     refine asr (lr _) rfl ?_
     refine sq_nil ?_
     refine aw_cond (lr _) (fun c6 => ?_) (fun c6 => ?_)
     ·
      have c6' := c6
      try simp only [qq] at c6'
      have eS : (wordsT p (k + 1)).map (fun x => [I x]) = (wordsT p k).map (fun x => [I x]) ++ [[I 1]] := by rw [wordsT_succ, List.map_append, word, if_pos (by show cntT p k _ = 0; omega)]; rfl
      refine aw_region ?_
      refine sq_ev rfl (ev_mv (v := .own _ _ _) (lr _)) ?_
      refine sq_ev rfl (ev_buildSlice (es := [[_]]) sf57 rfl rfl rfl rfl) ?_
      refine sq_append rfl sf57 Tryz.underlying57 rfl rfl (less_slx _ _) (Nat.succ_pos _) (by simp; omega) (by simp; omega) ?_
      refine sq_ev rfl (ev_as (v := .own _ _ _) (lr _)) ?_
      refine sq_nil (aw_region ?_)
      refine sq_ev rfl (ev_add (lr _) (lr _) (wr (by omega) (by omega))) ?_
      refine mvr (lr _) rfl ?_
      refine sq_nil ?_
      exact ⟨⟨k + 1, by omega⟩, by simp only; omega, Sub.fin 2 ⟨lr _, Less.eq (b := .own 1 1 ((wordsT p (k + 1)).map fun x => [I x])) (by rw [eS] <;> rfl), lr _, lr _, trivial⟩ (congrArg (fun n => [_, AObj.tok n]) (congrArg List.length eS.symm)) (by simp [slotsIn, objsIn, sget, keepS, AObj.inB, AV.inB, AV.inL, AV.inE, inE_map, inE_ints, inE_sc, -List.map_append, -List.map_take, -List.map_map]) (by simp [slotsIn, objsIn, sget, keepS, AObj.inB, AV.inB, AV.inL, AV.inE, inE_map, inE_ints, inE_sc, -List.map_append, -List.map_take, -List.map_map]) (by simp [he0])⟩
     ·
      have c6' := c6
      try simp only [qq] at c6'
      refine aw_seq (aw_region ?_)
      refine sq_ev rfl (ev_mv (v := .sl _ _) (lr _)) ?_
      refine sq_ev rfl (ev_len_map sl107 (lr _)) ?_
      refine sq_ev rfl (ev_eql (lr _) (lr _)) ?_
      refine asr (lr _) rfl ?_
      refine sq_nil ?_
      refine aw_cond (lr _) (fun c7 => ?_) (fun c7 => ?_)
      ·
       have c7' := c7
       try simp only [qq] at c7'
       have eS : (wordsT p (k + 1)).map (fun x => [I x]) = (wordsT p k).map (fun x => [I x]) ++ [[I 3]] := by rw [wordsT_succ, List.map_append, word, if_neg (by show ¬ cntT p k _ = 0; omega), if_pos (by show cntT p k _ = _; omega)]; rfl
       refine aw_region ?_
       refine sq_ev rfl (ev_mv (v := .own _ _ _) (lr _)) ?_
       refine sq_ev rfl (ev_buildSlice (es := [[_]]) sf57 rfl rfl rfl rfl) ?_
       refine sq_append rfl sf57 Tryz.underlying57 rfl rfl (less_slx _ _) (Nat.succ_pos _) (by simp; omega) (by simp; omega) ?_
       refine sq_ev rfl (ev_as (v := .own _ _ _) (lr _)) ?_
       refine sq_nil (aw_region ?_)
       refine sq_ev rfl (ev_add (lr _) (lr _) (wr (by omega) (by omega))) ?_
       refine mvr (lr _) rfl ?_
       refine sq_nil ?_
       exact ⟨⟨k + 1, by omega⟩, by simp only; omega, Sub.fin 2 ⟨lr _, Less.eq (b := .own 1 1 ((wordsT p (k + 1)).map fun x => [I x])) (by rw [eS] <;> rfl), lr _, lr _, trivial⟩ (congrArg (fun n => [_, AObj.tok n]) (congrArg List.length eS.symm)) (by simp [slotsIn, objsIn, sget, keepS, AObj.inB, AV.inB, AV.inL, AV.inE, inE_map, inE_ints, inE_sc, -List.map_append, -List.map_take, -List.map_map]) (by simp [slotsIn, objsIn, sget, keepS, AObj.inB, AV.inB, AV.inL, AV.inE, inE_map, inE_ints, inE_sc, -List.map_append, -List.map_take, -List.map_map]) (by simp [he0])⟩
      ·
       have c7' := c7
       try simp only [qq] at c7'
       have eS : (wordsT p (k + 1)).map (fun x => [I x]) = (wordsT p k).map (fun x => [I x]) ++ [[I 2]] := by rw [wordsT_succ, List.map_append, word, if_neg (by show ¬ cntT p k _ = 0; omega), if_neg (by show ¬ cntT p k _ = _; omega)]; rfl
       refine aw_region ?_
       refine sq_ev rfl (ev_mv (v := .own _ _ _) (lr _)) ?_
       refine sq_ev rfl (ev_buildSlice (es := [[_]]) sf57 rfl rfl rfl rfl) ?_
       refine sq_append rfl sf57 Tryz.underlying57 rfl rfl (less_slx _ _) (Nat.succ_pos _) (by simp; omega) (by simp; omega) ?_
       refine sq_ev rfl (ev_as (v := .own _ _ _) (lr _)) ?_
       refine sq_nil (aw_region ?_)
       refine sq_ev rfl (ev_add (lr _) (lr _) (wr (by omega) (by omega))) ?_
       refine mvr (lr _) rfl ?_
       refine sq_nil ?_
       exact ⟨⟨k + 1, by omega⟩, by simp only; omega, Sub.fin 2 ⟨lr _, Less.eq (b := .own 1 1 ((wordsT p (k + 1)).map fun x => [I x])) (by rw [eS] <;> rfl), lr _, lr _, trivial⟩ (congrArg (fun n => [_, AObj.tok n]) (congrArg List.length eS.symm)) (by simp [slotsIn, objsIn, sget, keepS, AObj.inB, AV.inB, AV.inL, AV.inE, inE_map, inE_ints, inE_sc, -List.map_append, -List.map_take, -List.map_map]) (by simp [slotsIn, objsIn, sget, keepS, AObj.inB, AV.inB, AV.inL, AV.inE, inE_map, inE_ints, inE_sc, -List.map_append, -List.map_take, -List.map_map]) (by simp [he0])⟩
   ·
    have c3' := c3
    try simp only [qq] at c3'
    obtain rfl : k = p.scenes.length := by omega
    refine aw_exit (aw_seq (aw_region ?_))
    refine sq_ev rfl (ev_mv (v := .own _ _ _) (lr _)) ?_
    refine sq_ev rfl (ev_as (v := .own _ _ _) (lr _)) ?_
    refine asr (lr _) rfl ?_
    refine sq_nil (aw_ret ?_)
    exact retQ_pure (v := .tup [.own _ _ _, .raw _]) rfl rfl (Less.trans (b := .tup [ints (wordsT p p.scenes.length), I 0]) (less_tup ⟨Less.trans (less_own _ _ _) (Less.eq (by rfl)), lr _, trivial⟩) (Less.eq (by rw [playedAV, if_pos c1', if_neg (by omega)])))


end Go.Proofs.YtjghdbdiejaacaaGreatDoor
