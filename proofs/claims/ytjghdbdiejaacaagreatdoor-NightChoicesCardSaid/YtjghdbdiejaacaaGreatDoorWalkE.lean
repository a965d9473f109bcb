/-
  Conditions: none.
-/
import Derived.Test.YtjghdbdiejaacaaGreatDoorWalkD
import Derived.Test.YtjghdbdiejaacaaGreatDoorSpec
set_option linter.all false
namespace Go.Proofs.YtjghdbdiejaacaaGreatDoor
open Go Go.Ab Ni
theorem en124 : Ent Tryz.prog 124 := Ent.of Tryz.func124 (by kernel_rfl) rfl
theorem en155 : Ent Tryz.prog 155 := Ent.of Tryz.func155 (by kernel_rfl) rfl

theorem box0 {p : Pl} {l N : Nat} {a : AV} {G T : List AObj} (hT : T.length = N) : (T ++ locs p l N a G)[N + 0]? = some (.cells [.fn (.yield l) [] []]) := by subst hT; exact lookP rfl
theorem box1 {p : Pl} {l N : Nat} {a : AV} {G T : List AObj} (hT : T.length = N) : (T ++ locs p l N a G)[N + 1]? = some (.cells [a]) := by subst hT; exact lookP rfl
theorem box2 {p : Pl} {l N : Nat} {a : AV} {G T : List AObj} (hT : T.length = N) : (T ++ locs p l N a G)[N + 2]? = some (.cells [fromV p N]) := by subst hT; exact lookP rfl
theorem now_cells {N : Nat} {G : List AObj} {a : AV} {now : List Nat} (h : NowIs N G a now) : a.cells = some [a] := by
  rcases h with ⟨rfl, _⟩ | ⟨_, _, _, rfl, _⟩ <;> rfl
theorem fm_len_le {α : Type} (f : Nat → List α) {a : Nat} : ∀ {b : Nat}, a ≤ b → (fm a f).length ≤ (fm b f).length
  | 0, h => by have : a = 0 := by omega
               subst this; exact Nat.le_refl _
  | b + 1, h => by
    by_cases e : a = b + 1
    · rw [e]; exact Nat.le_refl _
    · have := fm_len_le f (a := a) (b := b) (by omega)
      rw [fm_succ, List.length_append]; omega

/-- what an iteration is given -/
structure ItOK (p : Pl) (e : Env) (l m : Nat) (st : Bool) (T : Nat → List AObj) (N : Nat) (xs : List AV) : Prop where
  gp : GP p
  hT : ∀ i, (T i).length = N
  hm : m ≤ xs.length
  all : st = false → m = xs.length
  hy : ∀ i x, i < m → xs[i]? = some x → ∀ X, AYieldAt e Tryz.prog l x (T i ++ X) (goes m st i) (T (i + 1) ++ X)

def FromR (p : Pl) (l m : Nat) (st : Bool) (T : Nat → List AObj) (N : Nat) (many k : Nat) (now : List Nat) : ARes → List AObj → Prop := fun x H' =>
  ∃ X', if st = true ∧ m ≤ k + (seg p many now).length then x = .ret (B false) ∧ H' = T m ++ X' else x = .ret (B true) ∧ H' = T (k + (seg p many now).length) ++ X' ∧ LX p l N X' now

set_option maxHeartbeats 4000000 in
/-- kelir/night.choices$1$1 -/
theorem nfrom_call {p : Pl} {e : Env} {l m : Nat} {st : Bool} {T : Nat → List AObj} {N : Nat} {xs : List AV} (it : ItOK p e l m st T N xs) : ∀ (many : Nat) (now : List Nat) (k : Nat) (X : List AObj), (∀ x ∈ now, x < p.scenes.length) → now.length + many ≤ 16 →
  LX p l N X now → (st = true → k < m) → (∀ i y, (seg p many now)[i]? = some y → xs[k + i]? = some (nats y)) →
  ACallE e Tryz.prog 156 [I (nxt now), I many, .iptr (planC p), .ptr (N + 1) 0, .ptr (N + 0) 0, .ptr (N + 2) 0] (T k ++ X) (FromR p l m st T N many k now) := by
 intro many
 induction many with
 | zero =>
  rintro now k _ hmem hlen ⟨a, G, rfl, hnow⟩ hkm hseg
  have cv : CV p now := mem_cv hmem (by omega)
  refine acallE_of_marks (rs := [.tmp 8]) Tryz.func156 rfl rfl (Nat.le_of_ble_eq_true rfl) fun e0 hle he0 => ?_
  refine aw_seq (aw_region ?_)
  refine sq_ev rfl (ev_as (v := .raw _) (lr _)) ?_
  refine sq_nil (aw_seq (aw_seq (aw_region ?_)))
  refine sq_ev rfl (ev_mv (v := .raw _) (lr _)) ?_
  refine sq_ev rfl (ev_eql (lr _) (lr _)) ?_
  refine sq_nil ?_
  refine aw_true (less_b (by decide)) ?_
  refine aw_seq ?_
  refine aw_draw 8 mo (by kernel_rfl) ?_
  refine dr_ev rfl (ev_load_agg_i (lr _) ty27 (Nat.le_of_ble_eq_true rfl)) ?_
  refine dr_ev rfl (ev_load (lr _) (box1 (it.hT k)) ty34 rfl) ?_
  refine dr_ev rfl (ev_callQ en140 (lr _) (now_isc it.gp cv (it.hT k) hnow) ⟨lr _, lr _, trivial⟩) ?_
  refine dr_ev rfl (ev_not (lr _)) ?_
  refine dr_ev rfl (ev_mv (v := .raw _) (lr _)) ?_
  refine dr_split 16 (lr _) (fun g => ?_) (fun g => ?_)
  ·
   have hc : ¬ isC p now = true := by simpa using g
   have hs : seg p 0 now = [] := by rw [seg_zero, if_neg hc]
   refine dr_no rfl rfl (less_b g) rfl rfl ?_
   refine dr_no rfl rfl (less_b g) rfl rfl ?_
   refine dr_no rfl rfl (less_b g) rfl rfl ?_
   refine dr_end ?_
   refine sq_no rfl rfl (less_b g) rfl rfl ?_
   refine sq_ev rfl (ev_pickT (v := .raw _) (less_b g) (lr _)) ?_
   refine sq_ev rfl (ev_as (v := .raw _) (lr _)) ?_
   refine sq_nil (aw_ret ?_)
   refine ⟨_, B true, rfl, rfl, locs p l N a G, ?_⟩
   rw [hs]
   rw [if_neg (fun h => by have := hkm h.1; have := h.2; simp only [List.length_nil] at this; omega)]
   exact ⟨rfl, rfl, a, G, rfl, hnow⟩
  ·
   have hc : isC p now = true := by simpa using g
   have hs : seg p 0 now = [now] := by rw [seg_zero, if_pos hc]
   have hx : xs[k]? = some (nats now) := hseg 0 now (by rw [hs]; rfl)
   have hk : k < m := by
    cases hst : st with
    | true => exact hkm hst
    | false => have := it.all hst; have := (List.getElem?_eq_some_iff.1 hx).1; omega
   refine dr_yes rfl rfl (less_b g) rfl (ev_load (lr _) (box0 (it.hT k)) ty62 rfl) ?_
   refine dr_yes rfl rfl (less_b g) rfl (ev_load (lr _) (box1 (it.hT k)) ty34 rfl) ?_
   refine dr_yes rfl rfl (less_b g) rfl (ev_callQ en157 (lr _) (now_clone cv (it.hT k) hnow) ⟨lr _, trivial⟩) ?_
   refine dr_end ?_
   refine sq_yield_yes rfl rfl (less_b g) hle rfl (lr _) (lr _) (it.hy k _ hk hx _) ?_
   refine sq_ev rfl (ev_pickF (v := .raw _) (less_b g) (lr _)) ?_
   refine sq_ev rfl (ev_as (v := .raw _) (lr _)) ?_
   refine sq_nil (aw_ret ?_)
   refine ⟨_, B (goes m st k), rfl, rfl, locs p l N a G, ?_⟩
   rw [hs]
   by_cases hstop : st = true ∧ m ≤ k + [now].length
   ·
    rw [if_pos hstop]
    have hm : m = k + 1 := by have := hstop.2; simp only [List.length_singleton] at this; omega
    have hg : goes m st k = false := by unfold goes; rw [hstop.1, hm]; simp
    rw [hg, hm]; exact ⟨rfl, rfl⟩
   ·
    rw [if_neg hstop]
    have hg : goes m st k = true := by
     unfold goes
     cases hst : st with
     | false => rfl
     | true =>
      have hne : k + 1 ≠ m := fun h => hstop ⟨hst, by simp only [List.length_singleton]; omega⟩
      have : Nat.beq (k + 1) m = false := by cases hb : Nat.beq (k + 1) m with | false => rfl | true => exact absurd (Nat.eq_of_beq_eq_true hb) hne
      rw [this]; rfl
    rw [hg]; exact ⟨rfl, rfl, a, G, rfl, hnow⟩
 | succ mm ih =>
  rintro now k _ hmem hlen ⟨a, G, rfl, hnow⟩ hkm hseg
  have cv : CV p now := mem_cv hmem (by omega)
  have hnx := nxt_le hmem
  have hgl := it.gp.len
  refine acallE_of_marks (rs := [.tmp 8]) Tryz.func156 rfl rfl (Nat.le_of_ble_eq_true rfl) fun e0 hle he0 => ?_
  refine aw_seq (aw_region ?_)
  refine sq_ev rfl (ev_as (v := .raw _) (lr _)) ?_
  refine sq_nil (aw_seq (aw_seq (aw_region ?_)))
  refine sq_ev rfl (ev_mv (v := .raw _) (lr _)) ?_
  refine sq_ev rfl (ev_eql (lr _) (lr _)) ?_
  refine sq_nil ?_
  refine aw_false (less_b (by simp; omega)) ?_
  refine aw_skip (aw_seq (aw_seq (aw_region ?_)))
  refine sq_ev rfl (ev_mv (v := .raw _) (lr _)) ?_
  refine sq_ev rfl (ev_as (v := .raw _) (lr _)) ?_
  refine sq_nil (aw_block ?_)
  refine aw_loopk (ι := { g : Nat × List AObj // g.1 ≤ p.scenes.length - nxt now ∧ LX p l N g.2 now ∧ (st = true → k + (fm g.1 (segF p mm now)).length < m) }) [1, 2, 3, 5] (fun g => [(9, I (nxt now + g.1.1))])
   (fun _ g => T (k + (fm g.1.1 (segF p mm now)).length) ++ g.1.2) (fun g => p.scenes.length - nxt now - g.1.1) ⟨(0, locs p l N a G), Nat.zero_le _, ⟨a, G, rfl, hnow⟩, fun h => by simpa [fm] using hkm h⟩
   ⟨(by exact less_int (by simp)), lr _, lr _, lr _, lr _, trivial⟩ rfl ?_
  clear hnow
  rintro ⟨⟨d, Y⟩, hd, hX, hkd⟩
  dsimp only [keepS, St.put, sget, slotsOf, List.map_cons, List.map_nil, List.cons_append, List.nil_append, List.length_cons, List.length_nil, Nat.reduceBEq, Nat.reduceAdd, cond_true, cond_false]
  dsimp only at hd hX hkd
  obtain ⟨a, G, hY, hnow⟩ := hX
  subst hY
  have hTk := it.hT (k + (fm d (segF p mm now)).length)
  refine aw_seq (aw_seq (aw_region ?_))
  refine sq_ev rfl (ev_mv (v := .raw _) (lr _)) ?_
  refine sq_ev rfl (ev_mv (v := .raw _) (lr _)) ?_
  refine sq_ev rfl (ev_add (lr _) (lr _) (wr (by omega) (by omega))) ?_
  refine sq_ev rfl (ev_fieldAddr_i fo27_3 (lr _)) ?_
  refine sq_ev rfl (ev_load_i (lr _) ty25 rfl) ?_
  refine sq_ev rfl (ev_len_map sl25 (lr _)) ?_
  refine sq_ev rfl (ev_leq (lr _) (lr _)) ?_
  refine sq_nil ?_
  refine aw_cond (lr _) (fun c2 => ?_) (fun c2 => ?_)
  ·
   have c2' : nxt now + d + (mm + 1) ≤ p.scenes.length := by simp at c2; omega
   have hdl : d < p.scenes.length - nxt now := by omega
   have hmem' : ∀ x ∈ now ++ [nxt now + d], x < p.scenes.length := fun x hx => by
    rcases List.mem_append.1 hx with h | h
    ·
     exact hmem x h
    ·
     simp at h; omega
   refine aw_skip (aw_seq (aw_block (aw_seq (aw_region ?_))))
   refine sq_ev rfl (ev_load (lr _) (box1 hTk) ty34 rfl) ?_
   refine sq_ev rfl (ev_mv (v := .raw _) (lr _)) ?_
   refine sq_ev rfl (ev_buildSlice (es := [[_]]) sf34 rfl rfl rfl rfl) ?_
   refine sq_now_append (n := nxt now + d) rfl rfl cv hTk hnow (lr _) ((less_slx 1 [[I ((nxt now : Int) + d)]]).trans (Less.eq (by simp))) fun a' G' hnow' => ?_
   refine sq_storeP (H0 := T (k + (fm d (segF p mm now)).length)) (X := locs p l N a G') (j := 1) rfl (Less.eq (by rw [hTk]; rfl)) (lr _) (now_cells hnow') rfl ty34 rfl rfl ?_
   refine sq_nil (aw_seq (aw_seq (aw_region ?_)))
   refine sq_ev rfl (ev_load (lr _) (box2 (a := a') hTk) ty182 rfl) ?_
   refine sq_ev rfl (ev_mv (v := .raw _) (lr _)) ?_
   refine sq_ev rfl (ev_add (lr _) (lr _) (wr (by omega) (by omega))) ?_
   refine sq_ev rfl (ev_mv (v := .raw _) (lr _)) ?_
   refine sq_ev rfl (ev_sub (lr _) (lr _) (wr (by omega) (by omega))) ?_
   refine sq_callE (es := e) hle rfl en156 (lr _) (args := [I (nxt (now ++ [nxt now + d])), I mm, .iptr (planC p), .ptr (N + 1) 0, .ptr (N + 0) 0, .ptr (N + 2) 0])
    ⟨less_int (by rw [nxt_app]; simp), less_int (by omega), lr _, lr _, lr _, lr _, trivial⟩
    (ih (now ++ [nxt now + d]) (k + (fm d (segF p mm now)).length) (locs p l N a' G') hmem' (by simp; omega) ⟨a', G', rfl, hnow'⟩ hkd (fun i y hi => by
     have := hseg ((fm d (segF p mm now)).length + i) y (by rw [seg_succ]; exact fm_get _ hdl hi)
     rwa [← Nat.add_assoc] at this)) ?_ (fun v H' ⟨X', h⟩ => by split at h <;> cases h.1)
   rintro v H' ⟨X', hR⟩
   split at hR
   ·
    rename_i hstop
    obtain ⟨h1, rfl⟩ := hR
    cases h1
    refine sq_ev rfl (ev_not (lr _)) ?_
    refine sq_nil ?_
    refine aw_true (lr _) ?_
    refine aw_seq (aw_region ?_)
    refine sq_ev rfl (ev_as (v := .raw _) (lr _)) ?_
    refine sq_nil (aw_ret ?_)
    refine ⟨_, B false, rfl, rfl, X', ?_⟩
    have hle2 := fm_len_le (segF p mm now) (a := d + 1) (b := p.scenes.length - nxt now) (by omega)
    rw [fm_succ, List.length_append] at hle2
    have e1 : (segF p mm now d).length = (seg p mm (now ++ [nxt now + d])).length := rfl
    have hst2 := hstop.2
    rw [if_pos ⟨hstop.1, by rw [seg_succ]; omega⟩]
    exact ⟨rfl, rfl⟩
   ·
    rename_i hstop
    obtain ⟨h1, h2, a2, G2, rfl, hnow2⟩ := hR
    cases h1
    have hq : k + (fm d (segF p mm now)).length + (seg p mm (now ++ [nxt now + d])).length = k + (fm (d + 1) (segF p mm now)).length := by
     rw [fm_succ, List.length_append]; unfold segF; omega
    rw [hq] at h2 hstop
    subst h2
    have hTk2 := it.hT (k + (fm (d + 1) (segF p mm now)).length)
    refine sq_ev rfl (ev_not (lr _)) ?_
    refine sq_nil ?_
    refine aw_false (lr _) ?_
    refine aw_skip ?_
    rcases hnow2 with ⟨_, h0⟩ | ⟨j, cap, rs, rfl, hj, hrs, hcap⟩
    ·
     simp at h0
    rw [List.length_append, List.length_singleton] at hrs hcap
    refine aw_region ?_
    refine sq_ev rfl (ev_load (lr _) (box1 hTk2) ty34 rfl) ?_
    refine sq_ev rfl (ev_load (lr _) (box1 hTk2) ty34 rfl) ?_
    refine sq_ev rfl (ev_len_msl sl34 (lr _)) ?_
    refine sq_ev rfl (ev_sub (q := (now.length : Int)) (lr _) (lr _) (by rw [wr (by simp <;> omega) (by simp <;> omega)]; simp)) ?_
    refine sq_ev rfl (ev_slice_msl (hi := now.length) sl34 (lr _) (lr _) (by omega)) ?_
    refine sq_storeP (H0 := T (k + (fm (d + 1) (segF p mm now)).length)) (X := locs p l N _ G2) (j := 1) rfl (Less.eq (by rw [hTk2]; rfl)) (lr _) rfl rfl ty34 rfl rfl ?_
    refine sq_nil (aw_region ?_)
    refine sq_ev rfl (ev_mv (v := .raw _) (lr _)) ?_
    refine sq_ev rfl (ev_add (lr _) (lr _) (wr (by omega) (by omega))) ?_
    refine sq_ev rfl (ev_as (v := .raw _) (lr _)) ?_
    refine sq_nil ?_
    refine ⟨⟨(d + 1, locs p l N (.msl (N + (3 + j)) 0 now.length cap) G2), by simp only; omega, ⟨_, G2, rfl, .inr ⟨j, cap, I ((nxt now + d : Nat) : Int) :: rs, rfl, ?_, ?_, by omega⟩⟩, fun h => ?_⟩, by simp only; omega, Sub.slots ⟨(by exact less_int (by simp <;> omega)), lr _, lr _, lr _, lr _, trivial⟩⟩
    ·
     rw [hj]; simp
    ·
     simp only [List.length_cons, hrs]; omega
    ·
     simp only
     have : ¬ m ≤ k + (fm (d + 1) (segF p mm now)).length := fun h' => hstop ⟨h, h'⟩
     omega
  ·
   have c2' : p.scenes.length < nxt now + d + (mm + 1) := by simp at c2; omega
   have hsc := seg_cut (p := p) (m := mm) (now := now) hd c2'
   refine aw_exit (aw_seq (aw_region ?_))
   refine sq_ev rfl (ev_as (v := .raw _) (lr _)) ?_
   refine sq_nil (aw_ret ?_)
   refine ⟨_, B true, rfl, rfl, locs p l N a G, ?_⟩
   rw [hsc, if_neg (fun h => by have := hkd h.1; have := h.2; omega)]
   exact ⟨rfl, rfl, a, G, rfl, hnow⟩


end Go.Proofs.YtjghdbdiejaacaaGreatDoor

namespace Go.Proofs.YtjghdbdiejaacaaGreatDoor
open Go Go.Ab Ni


def segs (p : Pl) (i : Nat) : List (List Nat) := seg p (p.scenes.length - i) []

set_option maxHeartbeats 4000000 in
/-- kelir/night.choices$1: all choices, in order -/
theorem nchoices_iter {p : Pl} (gp : GP p) : AIter Tryz.prog 155 [] [.iptr (planC p)] ((allC p).map nats) := by
 intro m st hm h1 h2 l T e vs hT ok hH hs hy
 have it : ItOK p e l m st T (T 0).length ((allC p).map nats) := ⟨gp, hT, hm, h1, fun i x hi hx X => hy i x hi hx X⟩
 have hgl := gp.len
 have key : ACallE e Tryz.prog 155 [.fn (.yield l) [] [], .iptr (planC p)] (T 0) (fun x H' => x = .ret (.tup []) ∧ ∃ X, H' = T m ++ X) := by
  refine acallE_of_marks (rs := []) Tryz.func155 rfl rfl (Nat.le_of_ble_eq_true rfl) fun e0 hle he0 => ?_
  rw [nil_pre (T 0)]
  refine aw_seq (aw_region ?_)
  refine sq_boxP (H0 := T 0) (X := []) rfl (lr _) rfl ?_
  refine sq_nil (aw_seq (aw_region ?_))
  refine sq_allocP (H0 := T 0) rfl z34 ?_
  refine sq_nil (aw_seq (aw_region ?_))
  refine sq_allocP (H0 := T 0) rfl z182 ?_
  refine sq_nil (aw_seq (aw_region ?_))
  refine sq_ev rfl ev_makeFunc ?_
  refine sq_storeP (H0 := T 0) (j := 2) rfl (lr _) (lr _) rfl rfl ty182 rfl rfl ?_
  refine sq_nil (aw_seq (aw_region ?_))
  refine sq_ev rfl (ev_fieldAddr_i fo27_3 (lr _)) ?_
  refine sq_ev rfl (ev_load_i (lr _) ty25 rfl) ?_
  refine sq_ev rfl (ev_len_map sl25 (lr _)) ?_
  refine sq_ev rfl (ev_as (v := .raw _) (lr _)) ?_
  refine sq_nil (aw_block ?_)
  refine aw_loopk (ι := { g : Nat × List AObj // g.1 ≤ p.scenes.length + 1 ∧ LX p l (T 0).length g.2 [] ∧ (st = true → (fm g.1 (segs p)).length < m) }) [4] (fun g => [(5, I (p.scenes.length - g.1.1))])
   (fun _ g => T (fm g.1.1 (segs p)).length ++ g.1.2) (fun g => p.scenes.length + 1 - g.1.1) ⟨(0, locs p l (T 0).length (.raw (.slice none 0 0)) []), Nat.zero_le _, ⟨_, [], rfl, .inl ⟨rfl, rfl⟩⟩, fun h => by simpa [fm] using h2 h⟩
   ⟨(by exact less_int (by simp)), lr _, trivial⟩ rfl ?_
  rintro ⟨⟨d, Y⟩, hd, hX, hkd⟩
  dsimp only [keepS, St.put, sget, slotsOf, List.map_cons, List.map_nil, List.cons_append, List.nil_append, List.length_cons, List.length_nil, Nat.reduceBEq, Nat.reduceAdd, cond_true, cond_false]
  dsimp only at hd hX hkd
  obtain ⟨a, G, hY, hnow⟩ := hX
  subst hY
  have hTk := hT (fm d (segs p)).length
  refine aw_seq (aw_seq (aw_region ?_))
  refine sq_ev rfl (ev_mv (v := .raw _) (lr _)) ?_
  refine sq_ev rfl (ev_geq (lr _) (lr _)) ?_
  refine sq_nil ?_
  refine aw_cond (lr _) (fun c2 => ?_) (fun c2 => ?_)
  ·
   have c2' : d ≤ p.scenes.length := by simp at c2; omega
   refine aw_skip (aw_seq (aw_block (aw_seq (aw_region ?_))))
   refine sq_ev rfl (ev_load (lr _) (box2 hTk) ty182 rfl) ?_
   refine sq_ev rfl (ev_mv (v := .raw _) (lr _)) ?_
   refine sq_callE (es := e) hle rfl en156 (lr _) (args := [I (nxt []), I ((p.scenes.length - d : Nat) : Int), .iptr (planC p), .ptr ((T 0).length + 1) 0, .ptr ((T 0).length + 0) 0, .ptr ((T 0).length + 2) 0])
    ⟨lr _, less_int (by omega), lr _, lr _, lr _, lr _, trivial⟩
    (nfrom_call it (p.scenes.length - d) [] (fm d (segs p)).length (locs p l (T 0).length a G) (by simp) (by simp; omega) ⟨a, G, rfl, hnow⟩ hkd (fun i y hi => by
     have := fm_get (f := segs p) (p.scenes.length + 1) (by omega) hi
     rw [List.getElem?_map, allC_seg]
     have e1 : fm (p.scenes.length + 1) (fun i => seg p (p.scenes.length - i) []) = fm (p.scenes.length + 1) (segs p) := rfl
     rw [e1, this]; rfl)) ?_ (fun v H' ⟨X', h⟩ => by split at h <;> cases h.1)
   rintro v H' ⟨X', hR⟩
   split at hR
   ·
    obtain ⟨h1, rfl⟩ := hR
    cases h1
    refine sq_ev rfl (ev_not (lr _)) ?_
    refine sq_nil ?_
    refine aw_true (lr _) ?_
    refine aw_ret ?_
    exact ⟨_, .tup [], rfl, rfl, rfl, X', rfl⟩
   ·
    rename_i hstop
    obtain ⟨h1, h2, a2, G2, rfl, hnow2⟩ := hR
    cases h1
    have hq : (fm d (segs p)).length + (seg p (p.scenes.length - d) []).length = (fm (d + 1) (segs p)).length := by
     rw [fm_succ, List.length_append]; rfl
    rw [hq] at h2 hstop
    subst h2
    refine sq_ev rfl (ev_not (lr _)) ?_
    refine sq_nil ?_
    refine aw_false (lr _) ?_
    refine aw_skip (aw_region ?_)
    refine sq_ev rfl (ev_mv (v := .raw _) (lr _)) ?_
    refine sq_ev rfl (ev_sub (lr _) (lr _) (wr (by omega) (by omega))) ?_
    refine sq_ev rfl (ev_as (v := .raw _) (lr _)) ?_
    refine sq_nil ?_
    refine ⟨⟨(d + 1, locs p l (T 0).length a2 G2), by simp only; omega, ⟨a2, G2, rfl, hnow2⟩, fun h => ?_⟩, by simp only; omega, Sub.slots ⟨(by exact less_int (by simp <;> omega)), lr _, trivial⟩⟩
    simp only
    have : ¬ m ≤ (fm (d + 1) (segs p)).length := fun h' => hstop ⟨h, h'⟩
    omega
  ·
   have c2' : d = p.scenes.length + 1 := by simp at c2; omega
   subst c2'
   refine aw_exit ?_
   have e1 : (fm (p.scenes.length + 1) (segs p)).length = ((allC p).map nats).length := by rw [List.length_map, allC_seg]; rfl
   have hst : st = false := by
    cases h : st with
    | false => rfl
    | true => have := hkd h; omega
   refine ⟨_, .tup [], rfl, rfl, rfl, locs p l (T 0).length a G, ?_⟩
   rw [h1 hst, ← e1]
   rfl
 refine (key e vs (.refl e) ok hH hs).mono ?_
 rintro x w' ⟨ax, e', rfl, ok', fr, ⟨rfl, hX⟩, u, rfl, hu⟩
 exact ⟨u, e', rfl, rfl, ok', fr, hX⟩

/-- kelir/night.choices -/
theorem nchoices0_pure (p : Pl) : APure Tryz.prog 124 [plan p] (.fn (.func 155) [] [.iptr (planC p)]) := by
  refine apure_of (rs := [.tmp 2]) Tryz.func124 rfl rfl (Nat.le_of_ble_eq_true rfl) (by simp [AV.pureL, AV.pureB, AV.pureE, pureE_map]) (by simp [AV.pureL, AV.pureB, AV.pureE, pureE_map]) fun e0 he0 => ?_
  refine aw_seq (aw_region ?_)
  refine sq_box rfl (lr _) rfl ?_
  refine sq_ev rfl (ev_as (v := .raw _) (lr _)) ?_
  refine sq_nil (aw_seq (aw_region ?_))
  refine sq_ev rfl ev_makeFunc ?_
  refine sq_ev rfl (ev_as (v := .fn _ _ _) (lr _)) ?_
  refine sq_nil ?_
  refine aw_sub (sub_iptr (j := 0) (l := planC p) (sl' := [(2, .fn (.func 155) [] [.iptr (planC p)])]) (H' := [.dead]) rfl rfl ?_) ?_
  · intro q hq e e' _ key v hv
    obtain rfl := List.mem_singleton.1 hq
    have hv : Rep e (.fn (.func 155) [] [.ptr 0 0]) v := hv
    rw [Rep] at hv ⊢
    obtain ⟨x, y, h1, h2, h3⟩ := hv
    rw [RepL] at h3
    obtain ⟨u, rest, h4, h5, h6⟩ := h3
    rw [RepL] at h6
    refine ⟨x, y, h1, ?_, ?_⟩
    · rw [RepL] at h2 ⊢; exact h2
    · rw [h4, h6]; exact RepL.cons (key _ h5) RepL.nil
  refine aw_ret ?_
  exact retQ_pure (v := .fn _ _ _) rfl rfl (lr _)


end Go.Proofs.YtjghdbdiejaacaaGreatDoor

namespace Go.Proofs.YtjghdbdiejaacaaGreatDoor
open Go Go.Ab Ni
theorem bi110 : bldInfo Tryz.prog 110 = some ([.raw (.int .i64 0), .raw (.int .i64 0), .raw (.int .i64 0), .raw (.int .i64 0), .raw (.int .i64 0), .raw (.int .i64 0), .raw (.int .i64 0), .raw (.slice none 0 0), .raw (.slice none 0 0)], true, [(0, 8), (8, 1)], 0) := by kernel_rfl
theorem en88 : Ent Tryz.prog 88 := Ent.of Tryz.func88 (by kernel_rfl) rfl
theorem sf107 : SlFact Tryz.prog 107 110 9 104 := SlFact.of (by kernel_rfl)
theorem ty107 : tySz Tryz.prog 107 = some (false, 1) := by kernel_rfl
theorem z107 : zeroOf Tryz.prog 107 = some [.raw (.slice none 0 0)] := by kernel_rfl
theorem z110 : zeroOf Tryz.prog 110 = some [.raw (.int .i64 0), .raw (.int .i64 0), .raw (.int .i64 0), .raw (.int .i64 0), .raw (.int .i64 0), .raw (.int .i64 0), .raw (.int .i64 0), .raw (.slice none 0 0), .raw (.slice none 0 0)] := by kernel_rfl

def playl (p : Pl) : List (List Nat) := (allC p).filter (canP p)
abbrev playeds (p : Pl) (L : List (List Nat)) : AV := .sl 9 (L.map (playedC p))
theorem xs_get {L : List (List Nat)} {i : Nat} {x : AV} (h : (L.map nats)[i]? = some x) : ∃ y, L[i]? = some y ∧ x = nats y := by
  rw [List.getElem?_map] at h
  cases hy : L[i]? with
  | none => rw [hy] at h; cases h
  | some y => rw [hy] at h; exact ⟨y, rfl, (Option.some.inj h).symm⟩
theorem get_eq {α : Type} {L : List α} {i : Nat} {y : α} (h : L[i]? = some y) : ∃ hk : i < L.length, L[i] = y := by
  have hk := lt_of_get? h
  exact ⟨hk, by rw [List.getElem?_eq_getElem hk] at h; exact Option.some.inj h⟩
theorem inE_played (n : Nat) (p : Pl) (L : List (List Nat)) : AV.inE n (L.map (playedC p)) = true := inE_map fun x _ => by simp [AV.inL, AV.inB, inE_map]
theorem take_all {α : Type} (L : List α) : L.take L.length = L := List.take_length
set_option maxHeartbeats 2000000 in
/-- kelir/night.playable -/
theorem nplayable_pure (p : Pl) (gp : GP p) : APure Tryz.prog 86 [plan p] (playeds p (playl p)) := by
  refine apure_of_marks (rs := [.tmp 2]) Tryz.func86 rfl rfl (Nat.le_of_ble_eq_true rfl) (by simp [AV.pureL, AV.pureB, AV.pureE, pureE_map]) (by simp [AV.pureL, AV.pureB, AV.pureE, pureE_map]) fun e0 he0 => ?_
  refine aw_seq (aw_region ?_)
  refine sq_box rfl (lr _) rfl ?_
  refine sq_ev rfl (ev_as (v := .raw _) (lr _)) ?_
  refine sq_nil (aw_seq (aw_region ?_))
  refine sq_alloc rfl z107 ?_
  refine sq_nil (aw_seq (aw_seq (aw_region ?_)))
  refine sq_ev rfl (ev_load_agg (lr _) rfl ty27 rfl) ?_
  refine sq_ev rfl (ev_call en124 (lr _) (nchoices0_pure p) ⟨lr _, trivial⟩) ?_
  refine sq_nil (aw_block ?_)
  refine aw_sub (sub_token_box 1 9 rfl) ?_
  refine aw_rangeFunc1 (xs := (allC p).map nats) (fun k => [.cells (planC p), .cells [.own 2 9 ((((allC p).take k).filter (canP p)).map (playedC p))], .tok ((((allC p).take k).filter (canP p)).map (playedC p)).length]) ((allC p).map nats).length none (Nat.le_refl _) (fun _ => rfl) (fun h => absurd rfl h) rfl rfl (lr _) en155 (nchoices_iter gp) rfl (fun _ => rfl) (fun k hk => by show objsIn 3 _ = true; simp [objsIn, AObj.inB, AV.inB, AV.inL, AV.inE, inE_map, inE_played, inE_nats, -List.map_take, -List.map_map, -List.map_append]) (fun x hx => by obtain ⟨y, _, rfl⟩ := List.mem_map.1 hx; simp [AV.pureB, AV.pureL, AV.pureE, pureE_map]) rfl rfl ?_ ?_
  · intro l i x e0 hi hx he0
    obtain ⟨y, hy, rfl⟩ := xs_get hx
    obtain ⟨hk', he'⟩ := get_eq hy
    have cv := allC_mem gp y (List.mem_of_getElem? hy)
    have hft := ft_len (canP p) (allC p) i
    have hal := allC_len gp
    dsimp only [keepS, St.put, sget, slotsOf, List.map_cons, List.map_nil, List.cons_append, List.nil_append, List.length_cons, List.length_nil, Nat.reduceBEq, Nat.reduceAdd, cond_true, cond_false]
    refine aw_block (aw_seq (aw_region ?_))
    refine sq_ev rfl (ev_load_agg (lr _) rfl ty27 rfl) ?_
    refine sq_ev rfl (ev_mv (v := .sl _ _) (lr _)) ?_
    refine sq_ev rfl (ev_build bi110 rfl) ?_
    refine sq_alloc rfl z110 ?_
    refine sq_store rfl (lr _) (lr _) rfl rfl ty110 rfl rfl ?_
    refine sq_nil (aw_seq (aw_region ?_))
    refine sq_ev rfl (ev_load_agg (lr _) rfl ty110 rfl) ?_
    refine sq_ev rfl (ev_call en88 (lr _) (ncan_pure p y gp cv) ⟨lr _, trivial⟩) ?_
    refine sq_nil ?_
    refine aw_cond (lr _) (fun c1 => ?_) (fun c1 => ?_)
    · skip
      have c1' := c1
      try simp only [qq1, qq2, qq3, qq4, qq5, qq6, qq7, qq8, qq9, qq10, qq11, qq12, qq13] at c1'
      have eS : (((allC p).take (i + 1)).filter (canP p)).map (playedC p) = (((allC p).take i).filter (canP p)).map (playedC p) ++ [playedC p y] := by rw [filter_take_succ _ hk', he', if_pos c1', List.map_append]; rfl
      refine aw_region ?_
      refine sq_ev rfl (ev_load (lr _) rfl ty107 rfl) ?_
      refine sq_ev rfl (ev_load_agg (lr _) rfl ty110 rfl) ?_
      refine sq_ev rfl (ev_buildSlice (es := [[_, _, _, _, _, _, _, _, _]]) sf107 rfl rfl rfl rfl) ?_
      refine sq_append rfl sf107 Tryz.underlying107 rfl rfl (less_slx _ _) (Nat.succ_pos _) (by simp; omega) (by simp; omega) ?_
      refine sq_store rfl (lr _) (lr _) rfl rfl ty107 rfl rfl ?_
      refine sq_nil ?_
      exact ⟨⟨[.cells (playedC p y)], congrArg (fun L => [AObj.cells (planC p), .cells [.own 2 9 L], .tok L.length, .cells (playedC p y)]) eS.symm⟩, rfl, by split <;> rfl⟩
    · skip
      have c1' := c1
      try simp only [qq1, qq2, qq3, qq4, qq5, qq6, qq7, qq8, qq9, qq10, qq11, qq12, qq13] at c1'
      have eS : (((allC p).take (i + 1)).filter (canP p)).map (playedC p) = (((allC p).take i).filter (canP p)).map (playedC p) := by rw [filter_take_succ _ hk', he', if_neg (by simp [c1']), List.append_nil]
      refine aw_skip ?_
      exact ⟨⟨[.cells (playedC p y)], congrArg (fun L => [AObj.cells (planC p), .cells [.own 2 9 L], .tok L.length, .cells (playedC p y)]) eS.symm⟩, rfl, by split <;> rfl⟩
  · rintro _ rfl
    refine aw_seq (aw_region ?_)
    refine sq_ev rfl (ev_load (lr _) rfl ty107 rfl) ?_
    refine sq_ev rfl (ev_as (v := .own _ _ _) (lr _)) ?_
    refine sq_nil (aw_ret ?_)
    exact retQM_pure (v := .own _ _ _) rfl rfl (Less.trans (less_own _ _ _) (Less.eq (by simp [playl])))


end Go.Proofs.YtjghdbdiejaacaaGreatDoor

namespace Go.Proofs.YtjghdbdiejaacaaGreatDoor
open Go Go.Ab Ni
theorem en134 : Ent Tryz.prog 134 := Ent.of Tryz.func134 (by kernel_rfl) rfl
theorem en85 : Ent Tryz.prog 85 := Ent.of Tryz.func85 (by kernel_rfl) rfl
theorem en86 : Ent Tryz.prog 86 := Ent.of Tryz.func86 (by kernel_rfl) rfl
theorem sl107 : slElem Tryz.prog 107 = some (110, 9) := by kernel_rfl

theorem canP_can {p : Pl} {l : List Nat} (wp : WP p) (cv : CV p l) : canP p l = can p l := by
  rw [Bool.eq_iff_iff, can_ffail wp cv]; simp [canP]
theorem playl_choices {p : Pl} (gp : GP p) (wp : WP p) : playl p = choicesC p := List.filter_congr fun l hl => canP_can wp (allC_mem gp l hl)
theorem ncanw_pure {p : Pl} {l : List Nat} (gp : GP p) (cv : CV p l) (wp : WP p) : APure Tryz.prog 88 [played p l] (B (can p l)) := by
  rw [← canP_can wp cv]; exact ncan_pure p l gp cv
theorem nplayablew_pure {p : Pl} (gp : GP p) (wp : WP p) : APure Tryz.prog 86 [plan p] (playeds p (choicesC p)) := by
  rw [← playl_choices gp wp]; exact nplayable_pure p gp
theorem choicesC_len {p : Pl} (gp : GP p) : (choicesC p).length ≤ 1114112 := Nat.le_trans (List.length_filter_le _ _) (allC_len gp)
theorem choicesC_mem {p : Pl} (gp : GP p) : ∀ l ∈ choicesC p, CV p l := fun l hl => allC_mem gp l (List.mem_filter.1 hl).1
theorem pS_wp {p : Pl} {l : List Nat} (wp : WP p) : ∀ i, WP (pS p l i)
  | 0 => wp
  | i + 1 => fixP_wp (pS_wp wp i) _ _

set_option maxHeartbeats 1000000 in
/-- slices.Clone, of scenes -/
theorem nclonesc_call {l : List Sc} {H : List AObj} (hne : 0 < l.length) (hl : l.length ≤ 1000000) : ACall Tryz.prog 134 [.sl 5 (l.map sc)] H fun x H' => ∃ cap, (l.map sc).length ≤ cap ∧ x = .ret (.msl H.length 0 (l.map sc).length cap) ∧
  H' = H ++ [.cells ((l.map sc).flatten ++ List.replicate ((cap - (l.map sc).length) * 5) .any)] := by
 refine acall_of (rs := [.tmp 2]) Tryz.func134 rfl rfl (Nat.le_of_ble_eq_true rfl) fun e0 he0 => ?_
 refine aw_seq (aw_region ?_)
 refine sq_ev rfl (ev_as (v := .raw _) (lr _)) ?_
 refine sq_nil (aw_seq (aw_seq (aw_region ?_)))
 refine sq_ev rfl (ev_mv (v := .sl _ _) (lr _)) ?_
 refine sq_ev rfl (ev_sl_nil_ne sl25 (lr _) (by simp; omega) (lr _)) ?_
 refine sq_nil ?_
 refine aw_false (lr _) ?_
 refine aw_skip (aw_seq (aw_region ?_))
 refine sq_ev rfl (ev_buildSlice (es := []) sf25 rfl rfl rfl rfl) ?_
 refine sq_ev rfl (ev_mv (v := .sl _ _) (lr _)) ?_
 refine sq_append_msl rfl sf25 Tryz.underlying25 (lr _) (lr _) (by simp; omega) (by simp; omega) (by simp; omega) fun cap hcap => ?_
 refine sq_ev rfl (ev_as (v := .msl _ _ _ _) (lr _)) ?_
 refine sq_nil (aw_ret ?_)
 exact ⟨rfl, _, rfl, cap, hcap, rfl, rfl⟩

set_option maxHeartbeats 2000000 in
/-- kelir/night.fixed -/
theorem nfixed_pure {p : Pl} {k : Nat} {n : Int} (hk : k < p.scenes.length) (hl : p.scenes.length ≤ 1000000) : APure Tryz.prog 87 [plan p, I k, I n] (plan (fixP p k n)) := by
 refine apure_of (rs := [.cell 6 27]) Tryz.func87 rfl rfl (Nat.le_of_ble_eq_true rfl) (by simp [AV.pureL, AV.pureB, AV.pureE, pureE_map]) (by simp [AV.pureL, AV.pureB, AV.pureE, pureE_map]) fun e0 he0 => ?_
 refine aw_seq (aw_region ?_)
 refine sq_box rfl (lr _) rfl ?_
 refine sq_alloc rfl z27 ?_
 refine sq_nil (aw_seq (aw_region ?_))
 refine sq_ev rfl (ev_fieldAddr fo27_3 (lr _)) ?_
 refine sq_ev rfl (ev_load (lr _) rfl ty25 rfl) ?_
 refine sq_call (first := []) (cap := []) (args := [.sl 5 (p.scenes.map sc)]) rfl en134 (lr _) ⟨lr _, trivial⟩ (nclonesc_call (l := p.scenes) (by omega) hl) ?_ (by rintro v H' ⟨_, _, h, _⟩; cases h)
 rintro _ _ ⟨cap, hcap, h, rfl⟩; cases h
 refine sq_ev rfl (ev_fieldAddr fo27_3 (lr _)) ?_
 refine sq_store rfl (lr _) (lr _) rfl rfl ty25 rfl rfl ?_
 refine sq_nil (aw_seq ?_)
 have hfl := flat_len p.scenes
 have hsp := splice2 n p.scenes k hk (List.replicate ((cap - (p.scenes.map sc).length) * 5) .any) _ _ rfl rfl
 have hle1 : Nat.ble (k * 5 + 1 + 1) ((p.scenes.map sc).flatten ++ List.replicate ((cap - (p.scenes.map sc).length) * 5) AV.any).length = true := Nat.ble_eq_true_of_le (by rw [List.length_append, hfl, List.length_replicate]; omega)
 have hle2 : Nat.ble (k * 5 + 2 + 1) (((p.scenes.map sc).flatten ++ List.replicate ((cap - (p.scenes.map sc).length) * 5) AV.any).take (k * 5 + 1) ++ [I n] ++ ((p.scenes.map sc).flatten ++ List.replicate ((cap - (p.scenes.map sc).length) * 5) AV.any).drop (k * 5 + 1 + 1)).length = true := Nat.ble_eq_true_of_le (by simp only [List.length_append, List.length_take, List.length_drop, hfl, List.length_replicate, List.length_singleton]; omega)
 refine aw_drawc [] [10, 13] _ mo (by kernel_rfl) (HSub.mask [2] 0 _) ?_
 refine dc_ev rfl (ev_fieldAddr fo27_3 (lr _)) ?_
 refine dc_ev rfl (ev_load (lr _) rfl ty25 rfl) ?_
 refine dc_ev rfl (ev_mv (v := .raw _) (lr _)) ?_
 refine dc_ev rfl (ev_fieldAddr fo27_3 (lr _)) ?_
 refine dc_ev rfl (ev_load (lr _) rfl ty25 rfl) ?_
 refine dc_ev rfl (ev_mv (v := .raw _) (lr _)) ?_
 refine dc_ev rfl (ev_mv (v := .raw _) (lr _)) ?_
 refine dc_ev rfl (ev_mv (v := .raw _) (lr _)) ?_
 refine dc_ev rfl (ev_less (v' := .ptr 2 (k * 5)) (ev_index_msl sl25 (lr _) (lr _) rfl (by simp; omega)) (Less.eq (congrArg (AV.ptr 2) (Nat.zero_add (k * 5))))) ?_
 refine dc_ev rfl (ev_fieldAddr fo84_1 (lr _)) ?_
 refine dc_eff rfl rfl (eff_store rfl (lr _) (lr _) rfl rfl ty3 rfl hle1) (by apply HL.sub; repeat' (first | exact HL.nil _ | apply HL.same | apply HL.tok)) ?_
 refine dc_ev rfl (ev_less (v' := .ptr 2 (k * 5)) (ev_index_msl sl25 (lr _) (lr _) rfl (by simp; omega)) (Less.eq (congrArg (AV.ptr 2) (Nat.zero_add (k * 5))))) ?_
 refine dc_ev rfl (ev_fieldAddr fo84_2 (lr _)) ?_
 refine dc_eff rfl rfl (eff_store rfl (lr _) (lr _) rfl rfl ty3 rfl hle2) (by apply HL.sub; repeat' (first | exact HL.nil _ | apply HL.same | apply HL.tok)) ?_
 refine dc_nil (aw_seq (aw_region ?_))
 refine sq_ev rfl (ev_load_agg (lr _) rfl ty27 rfl) ?_
 refine sq_store rfl (lr _) (lr _) rfl rfl ty27 rfl rfl ?_
 refine sq_nil ?_
 refine aw_sub (sub_freeze (j := 2) (n := (p.scenes.map sc).length) (cap := cap) (sz := 5) (es := (p.scenes.set k (fixS p.scenes[k] n)).map sc) (rest := List.replicate ((cap - (p.scenes.map sc).length) * 5) .any) (sl' := [(6, .ptr 1 0)]) (congrArg (fun l => some (AObj.cells l)) hsp) (by simp) (fun q hq => by obtain ⟨x, _, rfl⟩ := List.mem_map.1 hq; rfl) (fun q hq => by rw [List.mem_singleton] at hq; subst hq; exact Fz.same (AV.ptr 1 0)) (FzH.same _ (by decide) (FzH.cells (by decide) (FzL.cons (Fz.same _) (FzL.cons (Fz.same _) (FzL.cons (Fz.same _) (FzL.cons (Fz.same _) (FzL.cons (Fz.same _) (FzL.cons (Fz.same _) (FzL.cons (Fz.same _) (FzL.cons Fz.frozen FzL.nil)))))))) (FzH.dead _ rfl (FzH.nil _))))) ?_
 refine aw_ret ?_
 exact retQ_res (vs := [.agg _]) rfl rfl ⟨resVar_cell rfl rfl ty27 rfl, trivial⟩ (Less.eq (by simp [fixP, scn_eq hk]))

set_option maxHeartbeats 1000000 in
/-- kelir/night.Choices -/
theorem nChoices_pure (p : Pl) (hl : p.scenes.length ≤ 1000000) : APure Tryz.prog 22 [plan p] (if PlOK p = true then .tup [natss (choicesC p), I 0] else .tup [.sl 1 [], I 2]) := by
 refine apure_of (rs := [.tmp 2, .tmp 3]) Tryz.func22 rfl rfl (Nat.le_of_ble_eq_true rfl) (by simp [AV.pureL, AV.pureB, AV.pureE, pureE_map]) (by split <;> simp [AV.pureL, AV.pureB, AV.pureE, pureE_map]) fun e0 he0 => ?_
 refine aw_seq (aw_region ?_)
 refine sq_box rfl (lr _) rfl ?_
 refine sq_ev rfl (ev_as (v := .raw _) (lr _)) ?_
 refine sq_ev rfl (ev_as (v := .raw _) (lr _)) ?_
 refine sq_nil (aw_seq (aw_seq (aw_region ?_)))
 refine sq_ev rfl (ev_load_agg (lr _) rfl ty27 rfl) ?_
 refine sq_ev rfl (ev_call en85 (lr _) (isplan_pure p hl) ⟨lr _, trivial⟩) ?_
 refine sq_ev rfl (ev_not (lr _)) ?_
 refine sq_nil ?_
 refine aw_cond (lr _) (fun c1 => ?_) (fun c1 => ?_)
 ·
  have c1' := c1
  try simp only [qq1, qq2, qq3, qq4, qq5, qq6, qq7, qq8, qq9, qq10, qq11, qq12, qq13] at c1'
  refine aw_seq (aw_region ?_)
  refine sq_ev rfl (ev_as (v := .raw _) (lr _)) ?_
  refine sq_ev rfl (ev_as (v := .raw _) (lr _)) ?_
  refine sq_nil (aw_ret ?_)
  exact retQ_pure (v := .tup [.raw _, .raw _]) rfl rfl (Less.trans (b := .tup [.sl 1 [], I 2]) (less_tup ⟨less_nil 1, lr _, trivial⟩) (Less.eq (by simp [c1'])))
 ·
  have c1' := c1
  try simp only [qq1, qq2, qq3, qq4, qq5, qq6, qq7, qq8, qq9, qq10, qq11, qq12, qq13] at c1'
  obtain ⟨gp, wp⟩ := gp_of_ok c1'
  refine aw_skip (aw_seq (aw_region ?_))
  refine sq_ev rfl (ev_as (v := .raw _) (lr _)) ?_
  refine sq_nil (aw_seq (aw_seq (aw_region ?_)))
  refine sq_ev rfl (ev_load_agg (lr _) rfl ty27 rfl) ?_
  refine sq_ev rfl (ev_call en86 (lr _) (nplayablew_pure gp wp) ⟨lr _, trivial⟩) ?_
  refine sq_ev rfl (ev_len_map sl107 (lr _)) ?_
  refine sq_ev rfl (ev_mv (v := .raw _) (lr _)) ?_
  refine sq_nil (aw_block ?_)
  refine aw_sub (sub_token 4 1 (lr _)) ?_
  refine aw_loopk (ι := { k : Nat // k ≤ (choicesC p).length }) [11, 12] (fun i => [(13, I i.1), (4, .own 1 1 (((choicesC p).take i.1).map fun x => [nats x]))]) (fun H i => H.set 1 (.tok (((choicesC p).take i.1).map fun x => [nats x]).length)) (fun i => (choicesC p).length - i.1) (⟨0, Nat.zero_le _⟩) ⟨lr _, lr _, lr _, lr _, trivial⟩ rfl ?_
  rintro ⟨k, hk⟩
  dsimp only [keepS, St.put, sget, slotsOf, List.map_cons, List.map_nil, List.cons_append, List.nil_append, List.length_cons, List.length_nil, Nat.reduceBEq, Nat.reduceAdd, cond_true, cond_false]
  have hcl := choicesC_len gp
  refine aw_seq (aw_region ?_)
  refine sq_ev rfl (ev_lss (lr _) (lr _)) ?_
  refine sq_nil (aw_seq ?_)
  refine aw_cond (lr _) (fun c2 => ?_) (fun c2 => ?_)
  ·
   have c2' := c2
   try simp only [qq1, qq2, qq3, qq4, qq5, qq6, qq7, qq8, qq9, qq10, qq11, qq12, qq13] at c2'
   have hk' : k < (choicesC p).length := by omega
   have eS : ((choicesC p).take (k + 1)).map (fun x => [nats x]) = ((choicesC p).take k).map (fun x => [nats x]) ++ [[nats (choicesC p)[k]]] := map_take_succ _ hk'
   refine aw_skip (aw_seq (aw_block (aw_seq (aw_region ?_))))
   refine sq_ev rfl (ev_index_map sl107 (lr _) (lr _) rfl (by omega)) ?_
   refine sq_ev rfl (ev_load_agg_i (lr _) ty110 (Nat.le_of_ble_eq_true rfl)) ?_
   refine sq_alloc rfl z110 ?_
   refine sq_store rfl (lr _) (lr _) rfl rfl ty110 rfl rfl ?_
   refine sq_nil (aw_region ?_)
   refine sq_ev rfl (ev_mv (v := .own _ _ _) (lr _)) ?_
   refine sq_ev rfl (ev_fieldAddr fo110_1 (lr _)) ?_
   refine sq_ev rfl (ev_load (lr _) rfl ty34 rfl) ?_
   refine sq_ev rfl (ev_buildSlice (es := [[_]]) sf30 rfl rfl rfl rfl) ?_
   refine sq_append rfl sf30 Tryz.underlying30 rfl rfl (less_slx _ _) (Nat.succ_pos _) (by simp; omega) (by simp; omega) ?_
   refine sq_ev rfl (ev_as (v := .own _ _ _) (lr _)) ?_
   refine sq_nil (aw_region ?_)
   refine sq_ev rfl (ev_add (lr _) (lr _) (wr (by omega) (by omega))) ?_
   refine sq_ev rfl (ev_mv (v := .raw _) (lr _)) ?_
   refine sq_nil ?_
   exact ⟨⟨k + 1, by omega⟩, by simp only; omega, Sub.fin 2 ⟨lr _, Less.eq (b := .own 1 1 (((choicesC p).take (k + 1)).map fun x => [nats x])) (by rw [eS] <;> rfl), lr _, lr _, trivial⟩ (congrArg (fun n => [_, AObj.tok n]) (congrArg List.length eS.symm)) (by simp [slotsIn, objsIn, sget, keepS, AObj.inB, AV.inB, AV.inL, AV.inE, inE_map, inE_nats, inE_sc, -List.map_append, -List.map_take, -List.map_map]) (by simp [slotsIn, objsIn, sget, keepS, AObj.inB, AV.inB, AV.inL, AV.inE, inE_map, inE_nats, inE_sc, -List.map_append, -List.map_take, -List.map_map]) (by simp [he0])⟩
  ·
   have c2' := c2
   try simp only [qq1, qq2, qq3, qq4, qq5, qq6, qq7, qq8, qq9, qq10, qq11, qq12, qq13] at c2'
   obtain rfl : k = (choicesC p).length := by omega
   refine aw_exit (aw_seq (aw_region ?_))
   refine sq_ev rfl (ev_mv (v := .own _ _ _) (lr _)) ?_
   refine sq_ev rfl (ev_as (v := .own _ _ _) (lr _)) ?_
   refine sq_ev rfl (ev_as (v := .raw _) (lr _)) ?_
   refine sq_nil (aw_ret ?_)
   exact retQ_pure (v := .tup [.own _ _ _, .raw _]) rfl rfl (Less.trans (b := .tup [natss (choicesC p), I 0]) (less_tup ⟨Less.trans (less_own _ _ _) (Less.eq (by simp)), lr _, trivial⟩) (Less.eq (by simp [c1'])))


end Go.Proofs.YtjghdbdiejaacaaGreatDoor

namespace Go.Proofs.YtjghdbdiejaacaaGreatDoor
open Go Go.Ab Ni
theorem en87 : Ent Tryz.prog 87 := Ent.of Tryz.func87 (by kernel_rfl) rfl

def progAV (p : Pl) : AV := if PlOK p = true then (match choicesC p with | [] => .tup [.sl 1 [], .sl 1 [], I 5] | l :: _ => .tup [nats l, ints (firstL p l), I 0]) else .tup [.sl 1 [], .sl 1 [], I 2]
theorem progAV_pure (p : Pl) : (progAV p).pureB = true := by
  unfold progAV; split
  · split <;> simp [AV.pureB, AV.pureL, AV.pureE, pureE_map]
  · rfl
theorem progAV_nil {p : Pl} (h : PlOK p = true) (k : (choicesC p).length = 0) : progAV p = .tup [.sl 1 [], .sl 1 [], I 5] := by
  unfold progAV; rw [if_pos h, List.length_eq_zero_iff.1 k]
theorem progAV_cons {p : Pl} (h : PlOK p = true) (k : 0 < (choicesC p).length) : progAV p = .tup [nats (choicesC p)[0], ints (firstL p (choicesC p)[0]), I 0] := by
  unfold progAV; rw [if_pos h]
  obtain ⟨l, L, hc⟩ : ∃ l L, choicesC p = l :: L := by
    cases hc : choicesC p with
    | nil => rw [hc] at k; simp at k
    | cons l L => exact ⟨l, L, rfl⟩
  have e0 : (choicesC p)[0] = l := by simp [hc]
  rw [e0, hc]
set_option maxHeartbeats 4000000 in
/-- kelir/night.Programme -/
theorem nProgramme_pure (p : Pl) (hl0 : p.scenes.length ≤ 1000000) : APure Tryz.prog 23 [plan p] (progAV p) := by
  refine apure_of (rs := [.tmp 2, .tmp 3, .tmp 4]) Tryz.func23 rfl rfl (Nat.le_of_ble_eq_true rfl) (by simp [AV.pureL, AV.pureB, AV.pureE, pureE_map]) (progAV_pure p) fun e0 he0 => ?_
  refine aw_seq (aw_region ?_)
  refine sq_box rfl (lr _) rfl ?_
  refine sq_ev rfl (ev_as (v := .raw _) (lr _)) ?_
  refine sq_ev rfl (ev_as (v := .raw _) (lr _)) ?_
  refine sq_ev rfl (ev_as (v := .raw _) (lr _)) ?_
  refine sq_nil (aw_seq (aw_seq (aw_region ?_)))
  refine sq_ev rfl (ev_load_agg (lr _) rfl ty27 rfl) ?_
  refine sq_ev rfl (ev_call en85 (lr _) (isplan_pure p hl0) ⟨lr _, trivial⟩) ?_
  refine sq_ev rfl (ev_not (lr _)) ?_
  refine sq_nil ?_
  refine aw_cond (lr _) (fun c1 => ?_) (fun c1 => ?_)
  · skip
    have c1' := c1
    try simp only [qq1, qq2, qq3, qq4, qq5, qq6, qq7, qq8, qq9, qq10, qq11, qq12, qq13] at c1'
    refine aw_seq (aw_region ?_)
    refine sq_ev rfl (ev_as (v := .raw _) (lr _)) ?_
    refine sq_ev rfl (ev_as (v := .raw _) (lr _)) ?_
    refine sq_ev rfl (ev_as (v := .raw _) (lr _)) ?_
    refine sq_nil (aw_ret ?_)
    exact retQ_pure (v := .tup [.raw _, .raw _, .raw _]) rfl rfl (Less.trans (b := .tup [.sl 1 [], .sl 1 [], I 2]) (less_tup ⟨less_nil 1, less_nil 1, lr _, trivial⟩) (Less.eq (by simp [progAV, c1'])))
  · skip
    have c1' := c1
    try simp only [qq1, qq2, qq3, qq4, qq5, qq6, qq7, qq8, qq9, qq10, qq11, qq12, qq13] at c1'
    obtain ⟨gp, wp⟩ := gp_of_ok c1'
    refine aw_skip (aw_seq (aw_region ?_))
    refine sq_ev rfl (ev_load_agg (lr _) rfl ty27 rfl) ?_
    refine sq_ev rfl (ev_call en86 (lr _) (nplayablew_pure gp wp) ⟨lr _, trivial⟩) ?_
    refine sq_ev rfl (ev_as (v := .sl _ _) (lr _)) ?_
    refine sq_nil (aw_seq (aw_seq (aw_region ?_)))
    refine sq_ev rfl (ev_mv (v := .sl _ _) (lr _)) ?_
    refine sq_ev rfl (ev_len_map sl107 (lr _)) ?_
    refine sq_ev rfl (ev_eql (lr _) (lr _)) ?_
    refine sq_nil ?_
    refine aw_cond (lr _) (fun c2 => ?_) (fun c2 => ?_)
    · skip
      have c2' := c2
      try simp only [qq1, qq2, qq3, qq4, qq5, qq6, qq7, qq8, qq9, qq10, qq11, qq12, qq13] at c2'
      have h0 : (choicesC p).length = 0 := by omega
      refine aw_seq (aw_region ?_)
      refine sq_ev rfl (ev_as (v := .raw _) (lr _)) ?_
      refine sq_ev rfl (ev_as (v := .raw _) (lr _)) ?_
      refine sq_ev rfl (ev_as (v := .raw _) (lr _)) ?_
      refine sq_nil (aw_ret ?_)
      exact retQ_pure (v := .tup [.raw _, .raw _, .raw _]) rfl rfl (Less.trans (b := .tup [.sl 1 [], .sl 1 [], I 5]) (less_tup ⟨less_nil 1, less_nil 1, lr _, trivial⟩) (Less.eq (progAV_nil c1' h0).symm))
    · skip
      have c2' := c2
      try simp only [qq1, qq2, qq3, qq4, qq5, qq6, qq7, qq8, qq9, qq10, qq11, qq12, qq13] at c2'
      have hne : 0 < (choicesC p).length := by omega
      refine aw_skip (aw_seq (aw_region ?_))
      refine sq_ev rfl (ev_mv (v := .sl _ _) (lr _)) ?_
      refine sq_ev rfl (ev_index_map (k := 0) sl107 (lr _) (lr _) rfl hne) ?_
      refine sq_ev rfl (ev_load_agg_i (lr _) ty110 (Nat.le_of_ble_eq_true rfl)) ?_
      refine sq_alloc rfl z110 ?_
      refine sq_store rfl (lr _) (lr _) rfl rfl ty110 rfl rfl ?_
      refine sq_nil (aw_seq ?_)
      generalize hl : (choicesC p)[0] = l
      have cv : CV p l := choicesC_mem gp l (hl ▸ List.getElem_mem hne)
      refine aw_region ?_
      refine sq_ev rfl (ev_as (v := .raw _) (lr _)) ?_
      refine sq_nil (aw_seq (aw_seq (aw_region ?_)))
      refine sq_ev rfl (ev_fieldAddr fo110_1 (lr _)) ?_
      refine sq_ev rfl (ev_load (lr _) rfl ty34 rfl) ?_
      refine sq_ev rfl (ev_len_map sl34 (lr _)) ?_
      refine sq_ev rfl (ev_mv (v := .raw _) (lr _)) ?_
      refine sq_nil (aw_block ?_)
      refine aw_sub (sub_token 7 1 (lr _)) ?_
      refine aw_loopk (ι := { i : Nat // i ≤ l.length }) [6, 23, 24] (fun i => [(25, I i.1), (7, .own 2 1 ((oS p l i.1).map (fun x => [I x])))]) (fun H i => [.cells (planC p), .cells (playedC (pS p l i.1) l), .tok ((oS p l i.1).map (fun x => [I x])).length]) (fun i => l.length - i.1) (⟨0, Nat.zero_le _⟩) ⟨lr _, lr _, lr _, lr _, lr _, trivial⟩ rfl ?_
      rintro ⟨i, i1⟩
      dsimp only [keepS, St.put, sget, slotsOf, List.map_cons, List.map_nil, List.cons_append, List.nil_append, List.length_cons, List.length_nil, Nat.reduceBEq, Nat.reduceAdd, cond_true, cond_false]
      obtain ⟨gpi, cvi⟩ := pS_ok gp cv i i1
      have wpi := pS_wp (l := l) wp i
      have gl := cv.len
      have hol := oS_len p l i
      refine aw_seq (aw_region ?_)
      refine sq_ev rfl (ev_lss (lr _) (lr _)) ?_
      refine sq_nil (aw_seq ?_)
      refine aw_cond (lr _) (fun c3 => ?_) (fun c3 => ?_)
      · skip
        have c3' := c3
        try simp only [qq1, qq2, qq3, qq4, qq5, qq6, qq7, qq8, qq9, qq10, qq11, qq12, qq13] at c3'
        have hk : i < l.length := by omega
        have hlt := cvi.rng _ (List.getElem_mem hk)
        have he := scn_eq hlt
        have hgd : l.getD i 0 = l[i] := by rw [List.getD_eq_getElem?_getD, List.getElem?_eq_getElem hk]; rfl
        have hm := gpi.most hlt
        have hv := gpi.least hlt
        rw [he] at hm hv
        refine aw_skip (aw_seq (aw_block (aw_seq (aw_region ?_))))
        refine sq_ev rfl (ev_index_map sl34 (lr _) (lr _) rfl (by omega)) ?_
        refine sq_ev rfl (ev_load_i (lr _) ty3 rfl) ?_
        refine sq_ev rfl (ev_as (v := .raw _) (lr _)) ?_
        refine sq_nil (aw_seq (aw_region ?_))
        refine sq_ev rfl (ev_fieldAddr fo110_0 (lr _)) ?_
        refine sq_ev rfl (ev_fieldAddr fo27_3 (lr _)) ?_
        refine sq_ev rfl (ev_load (lr _) rfl ty25 rfl) ?_
        refine sq_ev rfl (ev_mv (v := .raw _) (lr _)) ?_
        refine sq_ev rfl (ev_index_map sl25 (lr _) (lr _) rfl (by omega)) ?_
        refine sq_ev rfl (ev_fieldAddr_i fo84_1 (lr _)) ?_
        refine sq_ev rfl (ev_load_i (lr _) ty3 rfl) ?_
        refine sq_ev rfl (ev_as (v := .raw _) (lr _)) ?_
        refine sq_nil (aw_seq (aw_block ?_))
        refine aw_loopk (ι := { n : Int // (0 ≤ n ∧ n ≤ 10000) ∧ climb (pS p l i) l l[i] (fuel (pS p l i) l[i] n) n = len1 (pS p l i) l l[i] }) [6, 7, 9, 23, 24, 25] (fun n => [(10, I n.1)]) (fun H n => H) (fun n => (10000 - n.1).toNat) (⟨(scn (pS p l i) l[i]).least, gpi.least hlt, rfl⟩) ⟨(by exact less_int (congrArg Sc.least he).symm), lr _, lr _, lr _, lr _, lr _, lr _, trivial⟩ rfl ?_
        rintro ⟨n, hnb, hcl⟩
        dsimp only [keepS, St.put, sget, slotsOf, List.map_cons, List.map_nil, List.cons_append, List.nil_append, List.length_cons, List.length_nil, Nat.reduceBEq, Nat.reduceAdd, cond_true, cond_false]
        refine aw_seq (aw_seq ?_)
        refine aw_draw 21 mo (by kernel_rfl) ?_
        refine dr_ev rfl (ev_mv (v := .raw _) (lr _)) ?_
        refine dr_ev rfl (ev_fieldAddr fo110_0 (lr _)) ?_
        refine dr_ev rfl (ev_fieldAddr fo27_3 (lr _)) ?_
        refine dr_ev rfl (ev_load (lr _) rfl ty25 rfl) ?_
        refine dr_ev rfl (ev_mv (v := .raw _) (lr _)) ?_
        refine dr_ev rfl (ev_index_map sl25 (lr _) (lr _) rfl (by omega)) ?_
        refine dr_ev rfl (ev_fieldAddr_i fo84_2 (lr _)) ?_
        refine dr_ev rfl (ev_load_i (lr _) ty3 rfl) ?_
        refine dr_ev rfl (ev_lss (lr _) (lr _)) ?_
        refine dr_ev rfl (ev_mv (v := .raw _) (lr _)) ?_
        refine dr_split 45 (lr _) (fun g4 => ?_) (fun g4 => ?_)
        · skip
          have g4' := g4
          try simp only [qq1, qq2, qq3, qq4, qq5, qq6, qq7, qq8, qq9, qq10, qq11, qq12, qq13] at g4'
          refine dr_yes rfl rfl (less_b g4) rfl (ev_fieldAddr fo110_0 (lr _)) ?_
          refine dr_yes rfl rfl (less_b g4) rfl (ev_load_agg (lr _) rfl ty27 rfl) ?_
          refine dr_yes rfl rfl (less_b g4) rfl (ev_mv (v := .raw _) (lr _)) ?_
          refine dr_yes rfl rfl (less_b g4) rfl (ev_mv (v := .raw _) (lr _)) ?_
          refine dr_yes rfl rfl (less_b g4) rfl (ev_call en87 (lr _) (nfixed_pure hlt (by have := gpi.len; omega)) ⟨lr _, lr _, lr _, trivial⟩) ?_
          refine dr_yes rfl rfl (less_b g4) rfl (ev_fieldAddr fo110_1 (lr _)) ?_
          refine dr_yes rfl rfl (less_b g4) rfl (ev_load (lr _) rfl ty34 rfl) ?_
          refine dr_yes rfl rfl (less_b g4) rfl (ev_build bi110 rfl) ?_
          refine dr_yes rfl rfl (less_b g4) rfl (ev_call en88 (lr _) (ncanw_pure (fixP_gp gpi _ hnb) (fixP_cv cvi _ _) (fixP_wp wpi _ _)) ⟨lr _, trivial⟩) ?_
          refine dr_yes rfl rfl (less_b g4) rfl (ev_not (lr _)) ?_
          refine dr_ev rfl (ev_pickT (v := .raw _) (less_b g4) (lr _)) ?_
          refine dr_end (sq_nil ?_)
          refine aw_cond (lr _) (fun c5 => ?_) (fun c5 => ?_)
          · skip
            have c5' := c5
            try simp only [qq1, qq2, qq3, qq4, qq5, qq6, qq7, qq8, qq9, qq10, qq11, qq12, qq13] at c5'
            have hgo : goOn (pS p l i) l l[i] n = true := by simp [goOn, *]
            refine aw_skip (aw_block (aw_region ?_))
            refine sq_ev rfl (ev_mv (v := .raw _) (lr _)) ?_
            refine sq_ev rfl (ev_add (lr _) (lr _) (wr (by omega) (by omega))) ?_
            refine sq_ev rfl (ev_as (v := .raw _) (lr _)) ?_
            refine sq_nil ?_
            exact ⟨⟨n + 1, by omega, by rw [← climb_go hgo]; exact hcl⟩, by simp only; omega, Sub.slots ⟨lr _, lr _, lr _, lr _, lr _, lr _, lr _, trivial⟩⟩
          · skip
            have c5' := c5
            try simp only [qq1, qq2, qq3, qq4, qq5, qq6, qq7, qq8, qq9, qq10, qq11, qq12, qq13] at c5'
            have hgo : goOn (pS p l i) l l[i] n = false := by simp [goOn, *]
            have hn : n = len1 (pS p l i) l l[i] := by rw [← hcl, climb_stop hgo]
            have e3 : pS p l (i + 1) = fixP (pS p l i) l[i] n := by simp only [pS, hgd, hn]
            have e1 : (oS p l (i + 1)).map (fun x => [I x]) = (oS p l i).map (fun x => [I x]) ++ [[I n]] := by simp only [oS, hgd, ← hn, List.map_append, List.map_cons, List.map_nil]
            have e2 : ((oS p l (i + 1)).map (fun x => [I x])).length = ((oS p l i).map (fun x => [I x]) ++ [[I n]]).length := by rw [e1]
            refine aw_exit (aw_seq (aw_region ?_))
            refine sq_ev rfl (ev_mv (v := .own _ _ _) (lr _)) ?_
            refine sq_ev rfl (ev_mv (v := .raw _) (lr _)) ?_
            refine sq_ev rfl (ev_buildSlice (es := [[_]]) sf34 rfl rfl rfl rfl) ?_
            refine sq_append rfl sf34 Tryz.underlying34 rfl rfl (less_slx _ _) (Nat.succ_pos _) (by simp; omega) (by simp; omega) ?_
            refine sq_ev rfl (ev_as (v := .own _ _ _) (lr _)) ?_
            refine sq_nil (aw_region ?_)
            refine sq_ev rfl (ev_fieldAddr fo110_0 (lr _)) ?_
            refine sq_ev rfl (ev_load_agg (lr _) rfl ty27 rfl) ?_
            refine sq_ev rfl (ev_mv (v := .raw _) (lr _)) ?_
            refine sq_ev rfl (ev_mv (v := .raw _) (lr _)) ?_
            refine sq_ev rfl (ev_call en87 (lr _) (nfixed_pure hlt (by have := gpi.len; omega)) ⟨lr _, lr _, lr _, trivial⟩) ?_
            refine sq_ev rfl (ev_fieldAddr fo110_0 (lr _)) ?_
            refine sq_store rfl (lr _) (lr _) rfl rfl ty27 rfl rfl ?_
            refine sq_nil (aw_region ?_)
            refine sq_ev rfl (ev_add (lr _) (lr _) (wr (by omega) (by omega))) ?_
            refine sq_ev rfl (ev_mv (v := .raw _) (lr _)) ?_
            refine sq_nil ?_
            exact ⟨⟨i + 1, by omega⟩, by simp only; omega, Sub.fin 3 ⟨lr _, Less.eq (b := .own 2 1 ((oS p l (i + 1)).map (fun x => [I x]))) (by rw [e1] <;> rfl), lr _, lr _, lr _, trivial⟩ ((congrArg (fun (q : Pl) => [AObj.cells (planC p), AObj.cells (playedC q l), AObj.tok ((oS p l i).map (fun x => [I x]) ++ [[I n]]).length]) e3.symm).trans (congrArg (fun (m : Nat) => [AObj.cells (planC p), AObj.cells (playedC (pS p l (i + 1)) l), AObj.tok m]) e2.symm)) (by simp [slotsIn, objsIn, sget, keepS, AObj.inB, AV.inB, AV.inL, AV.inE, inE_map]) (by simp [slotsIn, objsIn, sget, keepS, AObj.inB, AV.inB, AV.inL, AV.inE, inE_map]) (by simp [he0])⟩
        · skip
          have g4' := g4
          try simp only [qq1, qq2, qq3, qq4, qq5, qq6, qq7, qq8, qq9, qq10, qq11, qq12, qq13] at g4'
          have hgo : goOn (pS p l i) l l[i] n = false := by simp [goOn, *]
          have hn : n = len1 (pS p l i) l l[i] := by rw [← hcl, climb_stop hgo]
          have e3 : pS p l (i + 1) = fixP (pS p l i) l[i] n := by simp only [pS, hgd, hn]
          have e1 : (oS p l (i + 1)).map (fun x => [I x]) = (oS p l i).map (fun x => [I x]) ++ [[I n]] := by simp only [oS, hgd, ← hn, List.map_append, List.map_cons, List.map_nil]
          have e2 : ((oS p l (i + 1)).map (fun x => [I x])).length = ((oS p l i).map (fun x => [I x]) ++ [[I n]]).length := by rw [e1]
          refine dr_no rfl rfl (less_b g4) rfl rfl ?_
          refine dr_no rfl rfl (less_b g4) rfl rfl ?_
          refine dr_no rfl rfl (less_b g4) rfl rfl ?_
          refine dr_no rfl rfl (less_b g4) rfl rfl ?_
          refine dr_no rfl rfl (less_b g4) rfl rfl ?_
          refine dr_no rfl rfl (less_b g4) rfl rfl ?_
          refine dr_no rfl rfl (less_b g4) rfl rfl ?_
          refine dr_no rfl rfl (less_b g4) rfl rfl ?_
          refine dr_no rfl rfl (less_b g4) rfl rfl ?_
          refine dr_no rfl rfl (less_b g4) rfl rfl ?_
          refine dr_ev rfl (ev_pickF (v := .raw _) (less_b g4) (lr _)) ?_
          refine dr_end (sq_nil ?_)
          refine aw_false (lr _) ?_
          refine aw_exit (aw_seq (aw_region ?_))
          refine sq_ev rfl (ev_mv (v := .own _ _ _) (lr _)) ?_
          refine sq_ev rfl (ev_mv (v := .raw _) (lr _)) ?_
          refine sq_ev rfl (ev_buildSlice (es := [[_]]) sf34 rfl rfl rfl rfl) ?_
          refine sq_append rfl sf34 Tryz.underlying34 rfl rfl (less_slx _ _) (Nat.succ_pos _) (by simp; omega) (by simp; omega) ?_
          refine sq_ev rfl (ev_as (v := .own _ _ _) (lr _)) ?_
          refine sq_nil (aw_region ?_)
          refine sq_ev rfl (ev_fieldAddr fo110_0 (lr _)) ?_
          refine sq_ev rfl (ev_load_agg (lr _) rfl ty27 rfl) ?_
          refine sq_ev rfl (ev_mv (v := .raw _) (lr _)) ?_
          refine sq_ev rfl (ev_mv (v := .raw _) (lr _)) ?_
          refine sq_ev rfl (ev_call en87 (lr _) (nfixed_pure hlt (by have := gpi.len; omega)) ⟨lr _, lr _, lr _, trivial⟩) ?_
          refine sq_ev rfl (ev_fieldAddr fo110_0 (lr _)) ?_
          refine sq_store rfl (lr _) (lr _) rfl rfl ty27 rfl rfl ?_
          refine sq_nil (aw_region ?_)
          refine sq_ev rfl (ev_add (lr _) (lr _) (wr (by omega) (by omega))) ?_
          refine sq_ev rfl (ev_mv (v := .raw _) (lr _)) ?_
          refine sq_nil ?_
          exact ⟨⟨i + 1, by omega⟩, by simp only; omega, Sub.fin 3 ⟨lr _, Less.eq (b := .own 2 1 ((oS p l (i + 1)).map (fun x => [I x]))) (by rw [e1] <;> rfl), lr _, lr _, lr _, trivial⟩ ((congrArg (fun (q : Pl) => [AObj.cells (planC p), AObj.cells (playedC q l), AObj.tok ((oS p l i).map (fun x => [I x]) ++ [[I n]]).length]) e3.symm).trans (congrArg (fun (m : Nat) => [AObj.cells (planC p), AObj.cells (playedC (pS p l (i + 1)) l), AObj.tok m]) e2.symm)) (by simp [slotsIn, objsIn, sget, keepS, AObj.inB, AV.inB, AV.inL, AV.inE, inE_map]) (by simp [slotsIn, objsIn, sget, keepS, AObj.inB, AV.inB, AV.inL, AV.inE, inE_map]) (by simp [he0])⟩
      · skip
        have c3' := c3
        try simp only [qq1, qq2, qq3, qq4, qq5, qq6, qq7, qq8, qq9, qq10, qq11, qq12, qq13] at c3'
        obtain rfl : i = l.length := by omega
        refine aw_exit (aw_seq (aw_region ?_))
        refine sq_ev rfl (ev_fieldAddr fo110_1 (lr _)) ?_
        refine sq_ev rfl (ev_load (lr _) rfl ty34 rfl) ?_
        refine sq_ev rfl (ev_mv (v := .own _ _ _) (lr _)) ?_
        refine sq_ev rfl (ev_as (v := .sl _ _) (lr _)) ?_
        refine sq_ev rfl (ev_as (v := .own _ _ _) (lr _)) ?_
        refine sq_ev rfl (ev_as (v := .raw _) (lr _)) ?_
        refine sq_nil (aw_ret ?_)
        exact retQ_pure (v := .tup [.sl _ _, .own _ _ _, .raw _]) rfl rfl (Less.trans (b := .tup [nats l, ints (firstL p l), I 0]) (less_tup ⟨lr _, Less.trans (less_own _ _ _) (Less.eq (by rfl)), lr _, trivial⟩) (Less.eq (by subst hl; exact (progAV_cons c1' hne).symm)))


end Go.Proofs.YtjghdbdiejaacaaGreatDoor

namespace Go.Proofs.YtjghdbdiejaacaaGreatDoor
open Go Go.Ab Ni
theorem en139 : Ent Tryz.prog 139 := Ent.of Tryz.func139 (by kernel_rfl) rfl

def chosenB (p : Pl) (l : List Int) : Bool := PlOK p && Ris p l && isCh p l
abbrev playedI (p : Pl) (l : List Int) : AV := .agg [I p.beg, I p.s0l, I p.s0h, I p.s1l, I p.s1h, I p.dl, I p.dh, .sl 5 (p.scenes.map sc), ints l]
theorem ris_up {p : Pl} {l : List Int} (hp : p.scenes.length ≤ 10) (h : Ris p l = true) : ∃ l', l = up l' ∧ CV p l' := by
  unfold Ris at h
  rw [okAll_iff] at h
  have hx : ∀ i (h : i < l.length), 0 ≤ l[i] ∧ l[i] < p.scenes.length := fun i hi => by
    have := h i hi
    simp only [risBad, isSc, inn, Bool.or_eq_false_iff, Bool.not_eq_false', Bool.and_eq_true, decide_eq_true_eq] at this
    omega
  have hm : ∀ x ∈ l, 0 ≤ x ∧ x < p.scenes.length := fun x hx' => by obtain ⟨i, hi, rfl⟩ := List.getElem_of_mem hx'; exact hx i hi
  have hinc : ∀ i (hi : i < l.length), (i : Int) ≤ l[i] := by
    intro i
    induction i with
    | zero => intro hi; have := hx 0 hi; omega
    | succ i ih =>
      intro hi
      have h1 := ih (by omega)
      have h2 := h (i + 1) hi
      simp only [risBad, Bool.or_eq_false_iff, Bool.and_eq_false_iff, decide_eq_false_iff_not, Nat.add_sub_cancel] at h2
      have := h2.2
      omega
  refine ⟨l.map Int.toNat, ?_, ?_, fun x hx' => ?_⟩
  · unfold up; rw [List.map_map]
    conv => lhs; rw [← List.map_id l]
    refine List.map_congr_left fun x hx' => ?_
    have := hm x hx'
    simp only [Function.comp, id]; omega
  · rw [List.length_map]
    rcases Nat.lt_or_ge 1000 l.length with hl | hl
    · have h1 := hinc 1000 hl
      have h2 := hx 1000 hl
      omega
    · exact hl
  · obtain ⟨y, hy, rfl⟩ := List.mem_map.1 hx'
    have := hm y hy
    omega
theorem chosen_up {p : Pl} {l : List Int} (h : chosenB p l = true) : ∃ l', l = up l' ∧ CV p l' ∧ GP p ∧ WP p := by
  simp only [chosenB, Bool.and_eq_true] at h
  obtain ⟨gp, wp⟩ := gp_of_ok h.1.1
  obtain ⟨l', h1, h2⟩ := ris_up wp.len h.1.2
  exact ⟨l', h1, h2, gp, wp⟩
theorem playedI_up (p : Pl) (l : List Nat) : playedI p (up l) = played p l := by simp [up]
/-- where a part must end, by the hours before -/
def atL (p : Pl) : Nat → Int | 0 => p.beg | k + 1 => wl p k
def atH (p : Pl) : Nat → Int | 0 => p.beg | k + 1 => wh p k
def suBad (p : Pl) (l : List Nat) (k : Nat) (_ : k < 3) : Bool := decide (wl p k - atH p k < pl p l k) || decide (ph p l k < wh p k - atL p k)
def sureP (p : Pl) (l : List Nat) : Bool := okAll 3 (suBad p l)
theorem at_bd {p : Pl} (gp : GP p) (k : Nat) : (-10000 ≤ atL p k ∧ atL p k ≤ 10000) ∧ (-10000 ≤ atH p k ∧ atH p k ≤ 10000) := by
  cases k with
  | zero => have := gp.beg; exact ⟨this, this⟩
  | succ k => have := win_bd gp k; exact ⟨⟨by simp only [atL]; omega, by simp only [atL]; omega⟩, ⟨by simp only [atH]; omega, by simp only [atH]; omega⟩⟩
set_option maxHeartbeats 1000000 in
/-- kelir/night.chosen -/
theorem nchosen_pure (p : Pl) (l : List Int) (hp : p.scenes.length ≤ 1000000) (hl : l.length ≤ 1000000) : APure Tryz.prog 107 [plan p, ints l] (.tup [playedI p l, B (chosenB p l)]) := by
  refine apure_of (rs := [.cell 4 110, .tmp 5]) Tryz.func107 rfl rfl (Nat.le_of_ble_eq_true rfl) (by simp [AV.pureL, AV.pureB, AV.pureE, pureE_map]) (by simp [AV.pureL, AV.pureB, AV.pureE, pureE_map]) fun e0 he0 => ?_
  refine aw_seq (aw_region ?_)
  refine sq_box rfl (lr _) rfl ?_
  refine sq_alloc rfl z110 ?_
  refine sq_ev rfl (ev_as (v := .raw _) (lr _)) ?_
  refine sq_nil (aw_seq ?_)
  refine aw_drawc [] [15] _ mo (by kernel_rfl) (HSub.mask [1] 0 _) ?_
  refine dc_ev rfl (ev_load_agg (lr _) rfl ty27 rfl) ?_
  refine dc_ev rfl (ev_mv (v := .sl _ _) (lr _)) ?_
  refine dc_ev rfl (ev_build bi110 rfl) ?_
  refine dc_ev rfl (ev_load_agg (lr _) rfl ty27 rfl) ?_
  refine dc_ev rfl (ev_call en85 (lr _) (isplan_pure p hp) ⟨lr _, trivial⟩) ?_
  refine dc_ev rfl (ev_mv (v := .raw _) (lr _)) ?_
  refine dc_split 11 (lr _) (fun g1 => ?_) (fun g1 => ?_)
  · skip
    have g1' := g1
    try simp only [qq1, qq2, qq3, qq4, qq5, qq6, qq7, qq8, qq9, qq10, qq11, qq12, qq13] at g1'
    refine dc_yes rfl rfl (less_b g1) rfl (ev_load_agg (lr _) rfl ty27 rfl) ?_
    refine dc_yes rfl rfl (less_b g1) rfl (ev_mv (v := .sl _ _) (lr _)) ?_
    refine dc_yes rfl rfl (less_b g1) rfl (ev_call en139 (lr _) (narescenes_pure p l hp hl) ⟨lr _, lr _, trivial⟩) ?_
    refine dc_ev rfl (ev_pickT (v := .raw _) (less_b g1) (lr _)) ?_
    refine dc_ev rfl (ev_mv (v := .raw _) (lr _)) ?_
    refine dc_split 16 (lr _) (fun g2 => ?_) (fun g2 => ?_)
    · skip
      have g2' := g2
      try simp only [qq1, qq2, qq3, qq4, qq5, qq6, qq7, qq8, qq9, qq10, qq11, qq12, qq13] at g2'
      refine dc_yes rfl rfl (less_b g2) rfl (ev_load_agg (lr _) rfl ty27 rfl) ?_
      refine dc_yes rfl rfl (less_b g2) rfl (ev_mv (v := .sl _ _) (lr _)) ?_
      refine dc_yes rfl rfl (less_b g2) rfl (ev_call en140 (lr _) (nischoice_pure p l hp hl) ⟨lr _, lr _, trivial⟩) ?_
      refine dc_ev rfl (ev_pickT (v := .raw _) (less_b g2) (lr _)) ?_
      refine dc_eff rfl rfl (eff_store rfl (lr _) (lr _) rfl rfl ty110 rfl rfl) (by apply HL.sub; repeat' (first | exact HL.nil _ | apply HL.same | apply HL.tok)) ?_
      refine dc_ev rfl (ev_as (v := .raw _) (lr _)) ?_
      refine dc_nil (aw_ret ?_)
      exact retQ_res (vs := [.agg _, .raw _]) rfl rfl ⟨resVar_cell rfl rfl ty110 rfl, resVar_tmp _ _ _, trivial⟩ (less_tup ⟨lr _, less_b (by simp [chosenB, *]), trivial⟩)
    · skip
      have g2' := g2
      try simp only [qq1, qq2, qq3, qq4, qq5, qq6, qq7, qq8, qq9, qq10, qq11, qq12, qq13] at g2'
      refine dc_no rfl rfl (less_b g2) rfl rfl ?_
      refine dc_no rfl rfl (less_b g2) rfl rfl ?_
      refine dc_no rfl rfl (less_b g2) rfl rfl ?_
      refine dc_ev rfl (ev_pickF (v := .raw _) (less_b g2) (lr _)) ?_
      refine dc_eff rfl rfl (eff_store rfl (lr _) (lr _) rfl rfl ty110 rfl rfl) (by apply HL.sub; repeat' (first | exact HL.nil _ | apply HL.same | apply HL.tok)) ?_
      refine dc_ev rfl (ev_as (v := .raw _) (lr _)) ?_
      refine dc_nil (aw_ret ?_)
      exact retQ_res (vs := [.agg _, .raw _]) rfl rfl ⟨resVar_cell rfl rfl ty110 rfl, resVar_tmp _ _ _, trivial⟩ (less_tup ⟨lr _, less_b (by simp [chosenB, *]), trivial⟩)
  · skip
    have g1' := g1
    try simp only [qq1, qq2, qq3, qq4, qq5, qq6, qq7, qq8, qq9, qq10, qq11, qq12, qq13] at g1'
    refine dc_no rfl rfl (less_b g1) rfl rfl ?_
    refine dc_no rfl rfl (less_b g1) rfl rfl ?_
    refine dc_no rfl rfl (less_b g1) rfl rfl ?_
    refine dc_ev rfl (ev_pickF (v := .raw _) (less_b g1) (lr _)) ?_
    refine dc_ev rfl (ev_mv (v := .raw _) (lr _)) ?_
    refine dc_no rfl rfl (lr _) rfl rfl ?_
    refine dc_no rfl rfl (lr _) rfl rfl ?_
    refine dc_no rfl rfl (lr _) rfl rfl ?_
    refine dc_ev rfl (ev_pickF (v := .raw _) (lr _) (lr _)) ?_
    refine dc_eff rfl rfl (eff_store rfl (lr _) (lr _) rfl rfl ty110 rfl rfl) (by apply HL.sub; repeat' (first | exact HL.nil _ | apply HL.same | apply HL.tok)) ?_
    refine dc_ev rfl (ev_as (v := .raw _) (lr _)) ?_
    refine dc_nil (aw_ret ?_)
    exact retQ_res (vs := [.agg _, .raw _]) rfl rfl ⟨resVar_cell rfl rfl ty110 rfl, resVar_tmp _ _ _, trivial⟩ (less_tup ⟨lr _, less_b (by simp [chosenB, *]), trivial⟩)

set_option maxHeartbeats 1000000 in
/-- (kelir/night.played).sure -/
theorem nsure_pure (p : Pl) (l : List Nat) (gp : GP p) (cv : CV p l) : APure Tryz.prog 123 [played p l] (B (sureP p l)) := by
 refine apure_of (rs := [.tmp 2]) Tryz.func123 rfl rfl (Nat.le_of_ble_eq_true rfl) (by simp [AV.pureL, AV.pureB, AV.pureE, pureE_map]) (rfl) fun e0 he0 => ?_
 refine aw_seq (aw_region ?_)
 refine sq_box rfl (lr _) rfl ?_
 refine sq_ev rfl (ev_as (v := .raw _) (lr _)) ?_
 refine sq_nil (aw_seq (aw_region ?_))
 refine sq_ev rfl (ev_fieldAddr fo110_0 (lr _)) ?_
 refine sq_ev rfl (ev_fieldAddr fo27_0 (lr _)) ?_
 refine sq_ev rfl (ev_load (lr _) rfl ty3 rfl) ?_
 refine sq_ev rfl (ev_fieldAddr fo110_0 (lr _)) ?_
 refine sq_ev rfl (ev_fieldAddr fo27_0 (lr _)) ?_
 refine sq_ev rfl (ev_load (lr _) rfl ty3 rfl) ?_
 refine sq_ev rfl (ev_build bi23 rfl) ?_
 refine sq_alloc rfl z23 ?_
 refine sq_store rfl (lr _) (lr _) rfl rfl ty23 rfl rfl ?_
 refine sq_nil (aw_seq (aw_seq (aw_region ?_)))
 refine sq_ev rfl (ev_mv (v := .raw _) (lr _)) ?_
 refine sq_nil (aw_block ?_)
 refine aw_loopk (ι := { k : Nat // k ≤ 3 ∧ ∀ i, (h : i < 3) → i < k → suBad p l i h = false }) [1, 3] (fun i => [(14, I i.1)]) (fun H i => H.set 1 (.cells [I (atL p i.1), I (atH p i.1)])) (fun i => 3 - i.1) (⟨0, Nat.zero_le _, by omega⟩) ⟨lr _, lr _, lr _, trivial⟩ rfl ?_
 rintro ⟨k, hk, hok⟩
 dsimp only [keepS, St.put, sget, slotsOf, List.map_cons, List.map_nil, List.cons_append, List.nil_append, List.length_cons, List.length_nil, Nat.reduceBEq, Nat.reduceAdd, cond_true, cond_false]
 refine aw_seq (aw_region ?_)
 refine sq_ev rfl (ev_lss (lr _) (lr _)) ?_
 refine sq_nil (aw_seq ?_)
 refine aw_cond (lr _) (fun c1 => ?_) (fun c1 => ?_)
 ·
  have c1' := c1
  try simp only [qq1, qq2, qq3, qq4, qq5, qq6, qq7, qq8, qq9, qq10, qq11, qq12, qq13] at c1'
  have hk3 : k < 3 := by omega
  have b1 := at_bd gp k
  have b2 : 0 ≤ pl p l k ∧ pl p l k ≤ 10000000 := lsum_bd gp (ofP_cv cv _)
  have b3 : 0 ≤ ph p l k ∧ ph p l k ≤ 10000000 := hsum_bd gp (ofP_cv cv _)
  have b4 := win_bd gp k
  refine aw_skip (aw_seq (aw_block (aw_seq (aw_region ?_))))
  refine sq_ev rfl (ev_mv (v := .raw _) (lr _)) ?_
  refine sq_ev rfl (ev_as (v := .raw _) (lr _)) ?_
  refine sq_nil (aw_seq ?_)
  refine aw_draw 11 mo (by kernel_rfl) ?_
  refine dr_ev rfl (ev_load_agg (lr _) rfl ty110 rfl) ?_
  refine dr_ev rfl (ev_load_agg (lr _) rfl ty110 rfl) ?_
  refine dr_ev rfl (ev_mv (v := .raw _) (lr _)) ?_
  refine dr_ev rfl (ev_call en136 (lr _) (nof_pure p l (k : Int) gp cv) ⟨lr _, lr _, trivial⟩) ?_
  refine dr_ev rfl (ev_call en135 (lr _) (nlastsP_pure p l k gp cv) ⟨lr _, lr _, trivial⟩) ?_
  refine dr_ev rfl (ev_fieldAddr fo110_0 (lr _)) ?_
  refine dr_ev rfl (ev_load_agg (lr _) rfl ty27 rfl) ?_
  refine dr_ev rfl (ev_mv (v := .raw _) (lr _)) ?_
  refine dr_ev rfl (ev_call en142 (lr _) (nwindow_pure p k hk3) ⟨lr _, lr _, trivial⟩) ?_
  refine dr_alloc rfl z23 ?_
  refine dr_alloc rfl z23 ?_
  refine dr_end ?_
  refine sq_store rfl (lr _) (lr _) rfl rfl ty23 rfl rfl ?_
  refine sq_store rfl (lr _) (lr _) rfl rfl ty23 rfl rfl ?_
  refine sq_nil (aw_seq (aw_seq (aw_region ?_)))
  refine sq_ev rfl (ev_fieldAddr fo23_0 (lr _)) ?_
  refine sq_ev rfl (ev_load (lr _) rfl ty3 rfl) ?_
  refine sq_ev rfl (ev_fieldAddr fo23_1 (lr _)) ?_
  refine sq_ev rfl (ev_load (lr _) rfl ty3 rfl) ?_
  refine sq_ev rfl (ev_sub (lr _) (lr _) (wr (by omega) (by omega))) ?_
  refine sq_ev rfl (ev_fieldAddr fo23_0 (lr _)) ?_
  refine sq_ev rfl (ev_load (lr _) rfl ty3 rfl) ?_
  refine sq_ev rfl (ev_lss (lr _) (lr _)) ?_
  refine sq_ev rfl (ev_mv (v := .raw _) (lr _)) ?_
  refine sq_split 34 (lr _) (fun g2 => ?_) (fun g2 => ?_)
  ·
   have g2' := g2
   try simp only [qq1, qq2, qq3, qq4, qq5, qq6, qq7, qq8, qq9, qq10, qq11, qq12, qq13] at g2'
   refine sq_no rfl rfl (less_b g2) rfl rfl ?_
   refine sq_no rfl rfl (less_b g2) rfl rfl ?_
   refine sq_no rfl rfl (less_b g2) rfl rfl ?_
   refine sq_no rfl rfl (less_b g2) rfl rfl ?_
   refine sq_no rfl rfl (less_b g2) rfl rfl ?_
   refine sq_no rfl rfl (less_b g2) rfl rfl ?_
   refine sq_no rfl rfl (less_b g2) rfl rfl ?_
   refine sq_no rfl rfl (less_b g2) rfl rfl ?_
   refine sq_ev rfl (ev_pickT (v := .raw _) (less_b g2) (lr _)) ?_
   refine sq_nil ?_
   refine aw_true (lr _) ?_
   refine aw_seq (aw_region ?_)
   refine sq_ev rfl (ev_as (v := .raw _) (lr _)) ?_
   refine sq_nil (aw_ret ?_)
   exact retQ_pure (v := .raw _) rfl rfl (Less.eq (by rw [sureP, okAll_bad (i := k) (by omega) (by first | (simp [suBad, *]; done) | (simp_all [suBad]; done))]))
  ·
   have g2' := g2
   try simp only [qq1, qq2, qq3, qq4, qq5, qq6, qq7, qq8, qq9, qq10, qq11, qq12, qq13] at g2'
   refine sq_yes rfl rfl (less_b g2) rfl (ev_fieldAddr fo23_1 (lr _)) ?_
   refine sq_yes rfl rfl (less_b g2) rfl (ev_load (lr _) rfl ty3 rfl) ?_
   refine sq_yes rfl rfl (less_b g2) rfl (ev_fieldAddr fo23_0 (lr _)) ?_
   refine sq_yes rfl rfl (less_b g2) rfl (ev_load (lr _) rfl ty3 rfl) ?_
   refine sq_yes rfl rfl (less_b g2) rfl (ev_sub (lr _) (lr _) (wr (by omega) (by omega))) ?_
   refine sq_yes rfl rfl (less_b g2) rfl (ev_fieldAddr fo23_1 (lr _)) ?_
   refine sq_yes rfl rfl (less_b g2) rfl (ev_load (lr _) rfl ty3 rfl) ?_
   refine sq_yes rfl rfl (less_b g2) rfl (ev_gtr (lr _) (lr _)) ?_
   refine sq_ev rfl (ev_pickF (v := .raw _) (less_b g2) (lr _)) ?_
   refine sq_nil ?_
   refine aw_cond (lr _) (fun c3 => ?_) (fun c3 => ?_)
   ·
    have c3' := c3
    try simp only [qq1, qq2, qq3, qq4, qq5, qq6, qq7, qq8, qq9, qq10, qq11, qq12, qq13] at c3'
    refine aw_seq (aw_region ?_)
    refine sq_ev rfl (ev_as (v := .raw _) (lr _)) ?_
    refine sq_nil (aw_ret ?_)
    exact retQ_pure (v := .raw _) rfl rfl (Less.eq (by rw [sureP, okAll_bad (i := k) (by omega) (by first | (simp [suBad, *]; done) | (simp_all [suBad]; done))]))
   ·
    have c3' := c3
    try simp only [qq1, qq2, qq3, qq4, qq5, qq6, qq7, qq8, qq9, qq10, qq11, qq12, qq13] at c3'
    refine aw_skip (aw_region ?_)
    refine sq_ev rfl (ev_load_agg (lr _) rfl ty23 rfl) ?_
    refine sq_store rfl (lr _) (lr _) rfl rfl ty23 rfl rfl ?_
    refine sq_nil (aw_region ?_)
    refine sq_ev rfl (ev_add (lr _) (lr _) (wr (by omega) (by omega))) ?_
    refine sq_ev rfl (ev_mv (v := .raw _) (lr _)) ?_
    refine sq_nil ?_
    have hgood : suBad p l k (by omega) = false := by first | (simp [suBad, *]; done) | (simp_all [suBad]; done)
    exact ⟨⟨k + 1, by omega, fun i h hi => (by by_cases e : i = k; (subst e; exact hgood); exact hok i h (by omega))⟩, by simp only; omega, Sub.fin 2 ⟨lr _, lr _, lr _, trivial⟩ rfl (by simp [slotsIn, objsIn, sget, keepS, AObj.inB, AV.inB, AV.inL, AV.inE, inE_map, inE_ints, inE_sc, -List.map_append, -List.map_take, -List.map_map]) (by simp [slotsIn, objsIn, sget, keepS, AObj.inB, AV.inB, AV.inL, AV.inE, inE_map, inE_ints, inE_sc, -List.map_append, -List.map_take, -List.map_map]) (by simp [he0])⟩
 ·
  have c1' := c1
  try simp only [qq1, qq2, qq3, qq4, qq5, qq6, qq7, qq8, qq9, qq10, qq11, qq12, qq13] at c1'
  refine aw_exit (aw_seq (aw_region ?_))
  refine sq_ev rfl (ev_as (v := .raw _) (lr _)) ?_
  refine sq_nil (aw_ret ?_)
  exact retQ_pure (v := .raw _) rfl rfl (Less.eq (by rw [sureP, okAll_end hk c1' hok]))


end Go.Proofs.YtjghdbdiejaacaaGreatDoor
