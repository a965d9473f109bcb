/-
  Conditions: none.
-/
import Derived.Test.YtjghdbdiejaacaaGreatDoorWalkH
set_option linter.all false
namespace Go.Proofs.YtjghdbdiejaacaaGreatDoor
open Go Go.Ab Ni
theorem en113 : Ent Tryz.prog 113 := Ent.of Tryz.func113 (by kernel_rfl) rfl
theorem en114 : Ent Tryz.prog 114 := Ent.of Tryz.func114 (by kernel_rfl) rfl

abbrev pl0 : Pl := ⟨0, 0, 0, 0, 0, 0, 0, []⟩
theorem less_pl0 : Less (.agg [I 0, I 0, I 0, I 0, I 0, I 0, I 0, .raw (.slice none 0 0)]) (plan pl0) :=
  less_agg ⟨lr _, lr _, lr _, lr _, lr _, lr _, lr _, less_nil 5, trivial⟩
abbrev z0 : List AV := [I 0, I 0, I 0, I 0, I 0, I 0, I 0, .raw (.slice none 0 0)]
def readAV (s : List UInt8) : AV := if 300 < s.length then .tup [plan pl0, I 3] else match parseL s with
  | some p => if PlOK p = true then .tup [plan p, I 0] else .tup [plan pl0, I 2]
  | none => .tup [plan pl0, I 4]
theorem parsR_ret {s : List UInt8} {p : Pl} {v : AV} (hp : parseL s = some p) (h : parsR s (.ret v)) : v = plan p := by unfold parsR at h; rw [hp] at h; cases h; rfl
theorem parsR_yes {s : List UInt8} {p : Pl} {v : AV} (hp : parseL s = some p) (h : parsR s (.pan v)) : False := by unfold parsR at h; rw [hp] at h; cases h
theorem parsR_no {s : List UInt8} {v : AV} (hp : parseL s = none) (h : parsR s (.ret v)) : False := by unfold parsR at h; rw [hp] at h; obtain ⟨w, h⟩ := h; cases h
theorem parsR_pan {s : List UInt8} {v : AV} (hp : parseL s = none) (h : parsR s (.pan v)) : ∃ w, v = .ifc 167 (.agg [S w]) := by unfold parsR at h; rw [hp] at h; obtain ⟨w, h⟩ := h; cases h; exact ⟨w, rfl⟩
/-- the closure that reads -/
theorem nread1_yes {s : List UInt8} {p : Pl} {i j : Nat} {H : List AObj} (hs : s.length ≤ 400) (hp : parseL s = some p) (hi : H[i]? = some (.cells [S s])) (hj : H[j]? = some (.cells [I 0, I 0, I 0, I 0, I 0, I 0, I 0, .raw (.slice none 0 0)])) :
    ACall Tryz.prog 113 [.ptr i 0, .ptr j 0] H fun x H' => H' = H.set j (.cells (planC p)) ∧ x = .ret (.tup []) := by
  refine acall_of (rs := []) Tryz.func113 rfl rfl (Nat.le_of_ble_eq_true rfl) fun e0 he0 => ?_
  refine aw_region ?_
  refine sq_ev rfl (ev_load (lr _) hi ty9 rfl) ?_
  refine sq_call (first := []) (cap := []) (args := [S s]) rfl en114 (lr _) ⟨lr _, trivial⟩ (nparsed_pan s hs H) ?_ ?_
  · rintro v _ ⟨rfl, hR⟩
    obtain rfl := parsR_ret hp hR
    refine sq_store (j := j) (off := 0) rfl (lr _) (lr _) rfl hj ty27 rfl rfl ?_
    refine sq_nil ?_
    exact ⟨rfl, .tup [], rfl, rfl, rfl⟩
  · rintro v _ ⟨rfl, hR⟩
    exact (parsR_yes hp hR).elim
theorem nread1_no {s : List UInt8} {i j : Nat} {H : List AObj} (hs : s.length ≤ 400) (hp : parseL s = none) (hi : H[i]? = some (.cells [S s])) :
    ACall Tryz.prog 113 [.ptr i 0, .ptr j 0] H fun x H' => H' = H ∧ ∃ w, x = .pan (.ifc 167 (.agg [S w])) := by
  refine acall_of (rs := []) Tryz.func113 rfl rfl (Nat.le_of_ble_eq_true rfl) fun e0 he0 => ?_
  refine aw_region ?_
  refine sq_ev rfl (ev_load (lr _) hi ty9 rfl) ?_
  refine sq_call (first := []) (cap := []) (args := [S s]) rfl en114 (lr _) ⟨lr _, trivial⟩ (nparsed_pan s hs H) ?_ ?_
  · rintro v _ ⟨rfl, hR⟩
    exact (parsR_no hp hR).elim
  · rintro v _ ⟨rfl, hR⟩
    obtain ⟨w, rfl⟩ := parsR_pan hp hR
    exact ⟨rfl, rfl, w, rfl⟩
/-- the attempt to read -/
theorem nattread_yes {s : List UInt8} {p : Pl} {i j : Nat} {H : List AObj} (hs : s.length ≤ 400) (hp : parseL s = some p) (hi : H[i]? = some (.cells [S s])) (hj : H[j]? = some (.cells [I 0, I 0, I 0, I 0, I 0, I 0, I 0, .raw (.slice none 0 0)]))
    (hin : objsIn H.length (H.set j (.cells (planC p))) = true) :
    ACall Tryz.prog 108 [.fn (.func 113) [] [.ptr i 0, .ptr j 0]] H fun x H' => H' = H.set j (.cells (planC p)) ∧ x = .ret (.tup [.agg [I 0, I 0], I 0]) := by
  refine ACall.drop (H1 := H.set j (.cells (planC p))) (R := fun x => x = .ret (.tup [.agg [I 0, I 0], I 0])) ?_ (by simp) (by simpa using hin) (fun x hx => by subst hx; rfl)
  refine (nattempt_call (Rd := fun x H1 => H1 = H.set j (.cells (planC p)) ∧ x = .ret (.tup [])) en113
    ((nread1_yes hs hp (i := i) (j := j) (lookL hi) (lookL hj)).mono ?_)).mono ?_
  · rintro x _ ⟨rfl, rfl⟩
    exact ⟨H.set j (.cells (planC p)), [], by rw [setL (lt_of_get? hj)]; simp, by simp, ⟨rfl, rfl⟩, _, Gave.ret _⟩
  · rintro x H' ⟨y, v, H1, X, rfl, hg, ⟨rfl, rfl⟩, rfl⟩
    refine ⟨⟨X, rfl⟩, ?_⟩
    cases hg; rfl
theorem nattread_no {s : List UInt8} {i j : Nat} {H : List AObj} (hs : s.length ≤ 400) (hp : parseL s = none) (hi : H[i]? = some (.cells [S s])) (hin : objsIn H.length H = true) :
    ACall Tryz.prog 108 [.fn (.func 113) [] [.ptr i 0, .ptr j 0]] H fun x H' => H' = H ∧ x = .ret (.tup [.agg [I 0, I 0], I 4]) := by
  refine ACall.drop (R := fun x => x = .ret (.tup [.agg [I 0, I 0], I 4])) ?_ (Nat.le_refl _) hin (fun x hx => by subst hx; rfl)
  refine (nattempt_call (Rd := fun x H1 => H1 = H ∧ ∃ w, x = .pan (.ifc 167 (.agg [S w]))) en113
    ((nread1_no hs hp (i := i) (j := j) (lookL hi)).mono ?_)).mono ?_
  · rintro x _ ⟨rfl, w, rfl⟩
    exact ⟨H, [], by simp, rfl, ⟨rfl, w, rfl⟩, _, Gave.sheet (S w) rfl⟩
  · rintro x H' ⟨y, v, H1, X, rfl, hg, ⟨rfl, w, rfl⟩, rfl⟩
    refine ⟨⟨X, rfl⟩, ?_⟩
    cases hg; rfl
set_option maxHeartbeats 1000000 in
/-- kelir/night.Read -/
theorem nReadL_pure (s : List UInt8) (hs : 300 < s.length) : APure Tryz.prog 51 [S s] (readAV s) := by
  refine apure_of (rs := [.cell 2 27, .tmp 3]) Tryz.func51 rfl rfl (Nat.le_of_ble_eq_true rfl) (by simp [AV.pureL, AV.pureB, AV.pureE, pureE_map]) (by unfold readAV; rw [if_pos hs]; rfl) fun e0 he0 => ?_
  refine aw_seq (aw_region ?_)
  refine sq_box rfl (lr _) rfl ?_
  refine sq_alloc rfl z27 ?_
  refine sq_ev rfl (ev_as (v := .raw _) (lr _)) ?_
  refine sq_nil (aw_seq (aw_seq (aw_region ?_)))
  refine sq_ev rfl (ev_load (lr _) rfl ty9 rfl) ?_
  refine sq_ev rfl (ev_lenS Tryz.underlying9 (lr _)) ?_
  refine sq_ev rfl (ev_gtr (lr _) (lr _)) ?_
  refine sq_nil ?_
  refine aw_cond (lr _) (fun c1 => ?_) (fun c1 => ?_)
  · skip
    have c1' := c1
    try simp only [qq1, qq2, qq3, qq4, qq5, qq6, qq7, qq8, qq9, qq10, qq11, qq12, qq13] at c1'
    refine aw_seq (aw_region ?_)
    refine sq_ev rfl (ev_build bi27 rfl) ?_
    refine sq_store rfl (lr _) (lr _) rfl rfl ty27 rfl rfl ?_
    refine sq_ev rfl (ev_as (v := .raw _) (lr _)) ?_
    refine sq_nil (aw_ret ?_)
    exact retQ_res (vs := [.agg _, .raw _]) rfl rfl ⟨resVar_cell rfl rfl ty27 rfl, resVar_tmp _ _ _, trivial⟩ (Less.trans (b := .tup [plan pl0, I 3]) (less_tup ⟨less_pl0, lr _, trivial⟩) (Less.eq (by unfold readAV; rw [if_pos hs])))
  · skip
    have c1' := c1
    try simp only [qq1, qq2, qq3, qq4, qq5, qq6, qq7, qq8, qq9, qq10, qq11, qq12, qq13] at c1'
    exfalso; omega

set_option maxHeartbeats 1000000 in
/-- kelir/night.Read -/
theorem nReadN_pure (s : List UInt8) (hs : ¬ 300 < s.length) (hp : parseL s = none) : APure Tryz.prog 51 [S s] (readAV s) := by
 refine apure_of (rs := [.cell 2 27, .tmp 3]) Tryz.func51 rfl rfl (Nat.le_of_ble_eq_true rfl) (by simp [AV.pureL, AV.pureB, AV.pureE, pureE_map]) (by unfold readAV; rw [if_neg hs, hp]; rfl) fun e0 he0 => ?_
 refine aw_seq (aw_region ?_)
 refine sq_box rfl (lr _) rfl ?_
 refine sq_alloc rfl z27 ?_
 refine sq_ev rfl (ev_as (v := .raw _) (lr _)) ?_
 refine sq_nil (aw_seq (aw_seq (aw_region ?_)))
 refine sq_ev rfl (ev_load (lr _) rfl ty9 rfl) ?_
 refine sq_ev rfl (ev_lenS Tryz.underlying9 (lr _)) ?_
 refine sq_ev rfl (ev_gtr (lr _) (lr _)) ?_
 refine sq_nil ?_
 refine aw_cond (lr _) (fun c1 => ?_) (fun c1 => ?_)
 ·
  have c1' := c1
  try simp only [qq1, qq2, qq3, qq4, qq5, qq6, qq7, qq8, qq9, qq10, qq11, qq12, qq13] at c1'
  exfalso; omega
 ·
  have c1' := c1
  try simp only [qq1, qq2, qq3, qq4, qq5, qq6, qq7, qq8, qq9, qq10, qq11, qq12, qq13] at c1'
  refine aw_skip (aw_seq (aw_region ?_))
  refine sq_alloc rfl z27 ?_
  refine sq_nil (aw_seq (aw_seq (aw_region ?_)))
  refine sq_ev rfl (ev_makeFunc) ?_
  refine sq_call (args := [.fn (.func 113) [] [.ptr 0 0, .ptr 2 0]]) rfl en108 (lr _) ⟨lr _, trivial⟩ (nattread_no (H := [.cells [S s], .cells z0, .cells z0]) (i := 0) (j := 2) (by omega) hp rfl (by simp [objsIn, AObj.inB, AV.inB, AV.inL, AV.inE, inE_map, inE_ints, inE_sc, -List.map_append, -List.map_take, -List.map_map])) ?_ (by rintro v H' ⟨_, h⟩; cases h)
  rintro _ _ ⟨rfl, h⟩; cases h
  refine sq_ev rfl (ev_mv (v := .tup _) (lr _)) ?_
  refine sq_ev rfl (ev_extract (lr _) rfl) ?_
  refine sq_ev rfl (ev_extract (lr _) rfl) ?_
  refine sq_alloc rfl z132 ?_
  refine sq_store rfl (lr _) (lr _) rfl rfl ty132 rfl rfl ?_
  refine sq_ev rfl (ev_as (v := .raw _) (lr _)) ?_
  refine sq_nil (aw_seq (aw_region ?_))
  refine sq_ev rfl (ev_mv (v := .raw _) (lr _)) ?_
  refine sq_ev rfl (ev_neq (lr _) (lr _)) ?_
  refine sq_nil ?_
  refine aw_cond (lr _) (fun c2 => ?_) (fun c2 => ?_)
  ·
   have c2' := c2
   try simp only [qq1, qq2, qq3, qq4, qq5, qq6, qq7, qq8, qq9, qq10, qq11, qq12, qq13] at c2'
   refine aw_seq (aw_region ?_)
   refine sq_ev rfl (ev_build bi27 rfl) ?_
   refine sq_ev rfl (ev_mv (v := .raw _) (lr _)) ?_
   refine sq_store rfl (lr _) (lr _) rfl rfl ty27 rfl rfl ?_
   refine sq_ev rfl (ev_as (v := .raw _) (lr _)) ?_
   refine sq_nil (aw_ret ?_)
   exact retQ_res (vs := [.agg _, .raw _]) rfl rfl ⟨resVar_cell rfl rfl ty27 rfl, resVar_tmp _ _ _, trivial⟩ (Less.trans (b := .tup [plan pl0, I 4]) (less_tup ⟨less_pl0, lr _, trivial⟩) (Less.eq (by unfold readAV; rw [if_neg hs, hp])))
  ·
   have c2' := c2
   try simp only [qq1, qq2, qq3, qq4, qq5, qq6, qq7, qq8, qq9, qq10, qq11, qq12, qq13] at c2'
   exact absurd c2' (by decide)

set_option maxHeartbeats 1000000 in
/-- kelir/night.Read -/
theorem nReadS_pure (s : List UInt8) (p : Pl) (hs : ¬ 300 < s.length) (hp : parseL s = some p) (hl : p.scenes.length ≤ 1000000) : APure Tryz.prog 51 [S s] (readAV s) := by
 refine apure_of (rs := [.cell 2 27, .tmp 3]) Tryz.func51 rfl rfl (Nat.le_of_ble_eq_true rfl) (by simp [AV.pureL, AV.pureB, AV.pureE, pureE_map]) (by unfold readAV; rw [if_neg hs, hp]; simp only; split <;> simp [AV.pureL, AV.pureB, AV.pureE, pureE_map]) fun e0 he0 => ?_
 refine aw_seq (aw_region ?_)
 refine sq_box rfl (lr _) rfl ?_
 refine sq_alloc rfl z27 ?_
 refine sq_ev rfl (ev_as (v := .raw _) (lr _)) ?_
 refine sq_nil (aw_seq (aw_seq (aw_region ?_)))
 refine sq_ev rfl (ev_load (lr _) rfl ty9 rfl) ?_
 refine sq_ev rfl (ev_lenS Tryz.underlying9 (lr _)) ?_
 refine sq_ev rfl (ev_gtr (lr _) (lr _)) ?_
 refine sq_nil ?_
 refine aw_cond (lr _) (fun c1 => ?_) (fun c1 => ?_)
 ·
  have c1' := c1
  try simp only [qq1, qq2, qq3, qq4, qq5, qq6, qq7, qq8, qq9, qq10, qq11, qq12, qq13] at c1'
  exfalso; omega
 ·
  have c1' := c1
  try simp only [qq1, qq2, qq3, qq4, qq5, qq6, qq7, qq8, qq9, qq10, qq11, qq12, qq13] at c1'
  refine aw_skip (aw_seq (aw_region ?_))
  refine sq_alloc rfl z27 ?_
  refine sq_nil (aw_seq (aw_seq (aw_region ?_)))
  refine sq_ev rfl (ev_makeFunc) ?_
  refine sq_call (args := [.fn (.func 113) [] [.ptr 0 0, .ptr 2 0]]) rfl en108 (lr _) ⟨lr _, trivial⟩ (nattread_yes (H := [.cells [S s], .cells z0, .cells z0]) (i := 0) (j := 2) (by omega) hp rfl rfl (by simp [objsIn, AObj.inB, AV.inB, AV.inL, AV.inE, inE_map, inE_ints, inE_sc, -List.map_append, -List.map_take, -List.map_map])) ?_ (by rintro v H' ⟨_, h⟩; cases h)
  rintro _ _ ⟨rfl, h⟩; cases h
  refine sq_ev rfl (ev_mv (v := .tup _) (lr _)) ?_
  refine sq_ev rfl (ev_extract (lr _) rfl) ?_
  refine sq_ev rfl (ev_extract (lr _) rfl) ?_
  refine sq_alloc rfl z132 ?_
  refine sq_store rfl (lr _) (lr _) rfl rfl ty132 rfl rfl ?_
  refine sq_ev rfl (ev_as (v := .raw _) (lr _)) ?_
  refine sq_nil (aw_seq (aw_region ?_))
  refine sq_ev rfl (ev_mv (v := .raw _) (lr _)) ?_
  refine sq_ev rfl (ev_neq (lr _) (lr _)) ?_
  refine sq_nil ?_
  refine aw_cond (lr _) (fun c2 => ?_) (fun c2 => ?_)
  ·
   have c2' := c2
   try simp only [qq1, qq2, qq3, qq4, qq5, qq6, qq7, qq8, qq9, qq10, qq11, qq12, qq13] at c2'
   exact absurd trivial c2'
  ·
   have c2' := c2
   try simp only [qq1, qq2, qq3, qq4, qq5, qq6, qq7, qq8, qq9, qq10, qq11, qq12, qq13] at c2'
   refine aw_skip (aw_seq (aw_seq (aw_region ?_)))
   refine sq_ev rfl (ev_load_agg (lr _) rfl ty27 rfl) ?_
   refine sq_ev rfl (ev_call en85 (lr _) (isplan_pure p hl) ⟨lr _, trivial⟩) ?_
   refine sq_ev rfl (ev_not (lr _)) ?_
   refine sq_nil ?_
   refine aw_cond (lr _) (fun c3 => ?_) (fun c3 => ?_)
   ·
    have c3' := c3
    try simp only [qq1, qq2, qq3, qq4, qq5, qq6, qq7, qq8, qq9, qq10, qq11, qq12, qq13] at c3'
    refine aw_seq (aw_region ?_)
    refine sq_ev rfl (ev_build bi27 rfl) ?_
    refine sq_store rfl (lr _) (lr _) rfl rfl ty27 rfl rfl ?_
    refine sq_ev rfl (ev_as (v := .raw _) (lr _)) ?_
    refine sq_nil (aw_ret ?_)
    exact retQ_res (vs := [.agg _, .raw _]) rfl rfl ⟨resVar_cell rfl rfl ty27 rfl, resVar_tmp _ _ _, trivial⟩ (Less.trans (b := .tup [plan pl0, I 2]) (less_tup ⟨less_pl0, lr _, trivial⟩) (Less.eq (by unfold readAV; rw [if_neg hs, hp]; simp only; rw [if_neg (by simpa using c3)])))
   ·
    have c3' := c3
    try simp only [qq1, qq2, qq3, qq4, qq5, qq6, qq7, qq8, qq9, qq10, qq11, qq12, qq13] at c3'
    refine aw_skip (aw_seq (aw_region ?_))
    refine sq_ev rfl (ev_load_agg (lr _) rfl ty27 rfl) ?_
    refine sq_store rfl (lr _) (lr _) rfl rfl ty27 rfl rfl ?_
    refine sq_ev rfl (ev_as (v := .raw _) (lr _)) ?_
    refine sq_nil (aw_ret ?_)
    exact retQ_res (vs := [.agg _, .raw _]) rfl rfl ⟨resVar_cell rfl rfl ty27 rfl, resVar_tmp _ _ _, trivial⟩ (Less.trans (b := .tup [plan p, I 0]) (less_tup ⟨lr _, lr _, trivial⟩) (Less.eq (by unfold readAV; rw [if_neg hs, hp]; simp only; rw [if_pos (by simpa using c3)])))

theorem rowsSc_len : ∀ {ws : List (List UInt8)} {l : List Sc}, rowsSc ws = some l → l.length = ws.length
  | [], l, h => by simp [rowsSc] at h; subst h; rfl
  | w :: ws, l, h => by
    unfold rowsSc at h
    split at h
    · rename_i n l' h1 h2
      simp only [Option.some.injEq] at h; subst h
      simp [rowsSc_len h2]
    · cases h
theorem parse0_len {s : List UInt8} {p : Pl} (h : parse0 s = some p) : p.scenes.length ≤ s.length := by
  unfold parse0 at h
  have hc := (cut_len 10 s).1
  split at h
  · rename_i r0 rs hr
    rw [hr] at hc; simp only [List.length_cons] at hc
    split at h
    · cases h
    · split at h
      · split at h
        · split at h
          · rename_i ns l hn hl
            simp only [Option.some.injEq] at h; subst h
            have := rowsSc_len hl
            have hh : ∀ ns, (headOf ns l).scenes = l := fun ns => by unfold headOf; split <;> rfl
            rw [hh, this, List.length_take]; omega
          · cases h
        · cases h
      · cases h
  · cases h
theorem parseL_len {s : List UInt8} {p : Pl} (h : parseL s = some p) : p.scenes.length ≤ s.length := by
  unfold parseL at h
  split at h
  · rename_i q hq
    split at h
    · simp only [Option.some.injEq] at h; subst h; exact parse0_len hq
    · cases h
  · cases h
/-- **Read.** -/
theorem nRead_pure (s : List UInt8) : APure Tryz.prog 51 [S s] (readAV s) := by
  by_cases hs : 300 < s.length
  · exact nReadL_pure s hs
  · cases hp : parseL s with
    | none => exact nReadN_pure s hs hp
    | some p => exact nReadS_pure s p hs hp (by have := parseL_len hp; omega)

end Go.Proofs.YtjghdbdiejaacaaGreatDoor

namespace Go.Proofs.YtjghdbdiejaacaaGreatDoor
open Go Go.Ab Ni
theorem en115 : Ent Tryz.prog 115 := Ent.of Tryz.func115 (by kernel_rfl) rfl
theorem en116 : Ent Tryz.prog 116 := Ent.of Tryz.func116 (by kernel_rfl) rfl
theorem en117 : Ent Tryz.prog 117 := Ent.of Tryz.func117 (by kernel_rfl) rfl
theorem sf138 : SlFact Tryz.prog 138 9 1 16 := SlFact.of (by kernel_rfl)
theorem sf78 : SlFact Tryz.prog 78 5 1 1 := SlFact.of (by kernel_rfl)

theorem qn10 {n : Nat} (h : n ≤ 1000000) : IntKind.i64.wrap ((n : Int).tdiv 10) = ((n / 10 : Nat) : Int) := by rw [qd (by omega) (by omega) (by decide)]; try omega
theorem rn10 {n : Nat} : ((n : Int).tmod 10) = ((n % 10 : Nat) : Int) := by rw [Int.tmod_eq_emod_of_nonneg (by omega)]; try omega
theorem itoa_nat (n : Nat) : Lib.itoa n = Lib.decDigits n := by unfold Lib.itoa; rw [if_neg (by omega)]; rfl
theorem dd_small {n : Nat} (h : n < 10) : Lib.decDigits n = [UInt8.ofNat (48 + n)] := by rw [Lib.decDigits, dif_pos h]
theorem dd_big {n : Nat} (h : ¬ n < 10) : Lib.decDigits n = Lib.decDigits (n / 10) ++ [UInt8.ofNat (48 + n % 10)] := by rw [Lib.decDigits, dif_neg h]
theorem digit_eq (n : Nat) : UInt8.ofNat ((48 + (n : Int)).toNat) = UInt8.ofNat (48 + n) := by congr 1; try omega
set_option maxHeartbeats 1000000 in
/-- kelir/kelirref01.Decimal -/
theorem rdec_pure (n : Nat) : n ≤ 1000000 → APure Tryz.prog 116 [I n] (S (Lib.decDigits n)) := by
  induction n using Nat.strongRecOn with
  | _ n ih =>
  intro hn
  refine apure_of (rs := [.tmp 2]) Tryz.func116 rfl rfl (Nat.le_of_ble_eq_true rfl) (by simp [AV.pureL, AV.pureB, AV.pureE, pureE_map]) (rfl) fun e0 he0 => ?_
  refine aw_seq (aw_region ?_)
  refine sq_ev rfl (ev_as (v := .raw _) (lr _)) ?_
  refine sq_nil (aw_seq (aw_seq (aw_region ?_)))
  refine sq_ev rfl (ev_mv (v := .raw _) (lr _)) ?_
  refine sq_ev rfl (ev_gtr (lr _) (lr _)) ?_
  refine sq_ev rfl (ev_mv (v := .raw _) (lr _)) ?_
  refine sq_split 5 (lr _) (fun g1 => ?_) (fun g1 => ?_)
  · skip
    have g1' := g1
    try simp only [qq1, qq2, qq3, qq4, qq5, qq6, qq7, qq8, qq9, qq10, qq11, qq12, qq13] at g1'
    refine sq_yes rfl rfl (less_b g1) rfl (ev_mv (v := .raw _) (lr _)) ?_
    refine sq_yes rfl rfl (less_b g1) rfl (ev_lss (lr _) (lr _)) ?_
    refine sq_ev rfl (ev_pickT (v := .raw _) (less_b g1) (lr _)) ?_
    refine sq_nil ?_
    refine aw_cond (lr _) (fun c2 => ?_) (fun c2 => ?_)
    · skip
      have c2' := c2
      try simp only [qq1, qq2, qq3, qq4, qq5, qq6, qq7, qq8, qq9, qq10, qq11, qq12, qq13] at c2'
      exfalso; omega
    · skip
      have c2' := c2
      try simp only [qq1, qq2, qq3, qq4, qq5, qq6, qq7, qq8, qq9, qq10, qq11, qq12, qq13] at c2'
      refine aw_skip (aw_seq (aw_seq (aw_region ?_)))
      refine sq_ev rfl (ev_mv (v := .raw _) (lr _)) ?_
      refine sq_ev rfl (ev_lss (lr _) (lr _)) ?_
      refine sq_nil ?_
      refine aw_cond (lr _) (fun c3 => ?_) (fun c3 => ?_)
      · skip
        have c3' := c3
        try simp only [qq1, qq2, qq3, qq4, qq5, qq6, qq7, qq8, qq9, qq10, qq11, qq12, qq13] at c3'
        exfalso; omega
      · skip
        have c3' := c3
        try simp only [qq1, qq2, qq3, qq4, qq5, qq6, qq7, qq8, qq9, qq10, qq11, qq12, qq13] at c3'
        refine aw_skip (aw_seq (aw_seq (aw_region ?_)))
        refine sq_ev rfl (ev_mv (v := .raw _) (lr _)) ?_
        refine sq_ev rfl (ev_lss (lr _) (lr _)) ?_
        refine sq_nil ?_
        refine aw_cond (lr _) (fun c4 => ?_) (fun c4 => ?_)
        · skip
          have c4' := c4
          try simp only [qq1, qq2, qq3, qq4, qq5, qq6, qq7, qq8, qq9, qq10, qq11, qq12, qq13] at c4'
          refine aw_seq (aw_region ?_)
          refine sq_ev rfl (ev_mv (v := .raw _) (lr _)) ?_
          refine sq_ev rfl (ev_add (lr _) (lr _) (wr (by omega) (by omega))) ?_
          refine sq_ev rfl (ev_conv_int Tryz.underlying3 Tryz.underlying5 (lr _) (wr8 (by omega) (by omega))) ?_
          refine sq_ev rfl (ev_buildSlice (es := [[_]]) sf78 rfl rfl rfl rfl) ?_
          refine sq_ev rfl (ev_bytesS (ns := [_]) Tryz.underlying78 Tryz.underlying5 Tryz.underlying9 (less_slx _ _)) ?_
          refine sq_ev rfl (ev_as (v := .raw _) (lr _)) ?_
          refine sq_nil (aw_ret ?_)
          exact retQ_pure (v := .raw _) rfl rfl (Less.eq (by rw [dd_small (n := n) (by omega)]; simp only [List.map_cons, List.map_nil, digit_eq]))
        · skip
          have c4' := c4
          try simp only [qq1, qq2, qq3, qq4, qq5, qq6, qq7, qq8, qq9, qq10, qq11, qq12, qq13] at c4'
          refine aw_skip (aw_seq ?_)
          refine aw_draw 11 mo (by kernel_rfl) ?_
          refine dr_ev rfl (ev_mv (v := .raw _) (lr _)) ?_
          refine dr_ev rfl (ev_quo (q := ((n / 10 : Nat) : Int)) (lr _) (lr _) (by decide) (qn10 hn)) ?_
          refine dr_ev rfl (ev_call en116 (lr _) (ih (n / 10) (by omega) (by omega)) ⟨lr _, trivial⟩) ?_
          refine dr_ev rfl (ev_mv (v := .raw _) (lr _)) ?_
          refine dr_ev rfl (ev_less (ev_rem (lr _) (lr _) (by decide)) (less_int (by exact rn10))) ?_
          refine dr_ev rfl (ev_add (lr _) (lr _) (wr (by omega) (by omega))) ?_
          refine dr_ev rfl (ev_conv_int Tryz.underlying3 Tryz.underlying5 (lr _) (wr8 (by omega) (by omega))) ?_
          refine dr_ev rfl (ev_buildSlice (es := [[_]]) sf78 rfl rfl rfl rfl) ?_
          refine dr_ev rfl (ev_bytesS (ns := [_]) Tryz.underlying78 Tryz.underlying5 Tryz.underlying9 (less_slx _ _)) ?_
          refine dr_ev rfl (ev_catS (lr _) (lr _) (by have := decDigits_len 6 (n / 10) (by omega); simp; omega)) ?_
          refine dr_ev rfl (ev_as (v := .raw _) (lr _)) ?_
          refine dr_end (sq_nil (aw_ret ?_))
          exact retQ_pure (v := .raw _) rfl rfl (Less.eq (by rw [dd_big (n := n) (by omega)]; simp only [List.map_cons, List.map_nil, digit_eq]))
  · skip
    have g1' := g1
    try simp only [qq1, qq2, qq3, qq4, qq5, qq6, qq7, qq8, qq9, qq10, qq11, qq12, qq13] at g1'
    exfalso; omega

theorem rdecimal_pure (n : Int) (h : 0 ≤ n ∧ n ≤ 1000000) : APure Tryz.prog 116 [I n] (S (Lib.itoa n)) := by
  obtain ⟨m, rfl⟩ : ∃ m : Nat, n = m := ⟨n.toNat, by omega⟩
  rw [itoa_nat]
  exact rdec_pure m (by omega)
set_option maxHeartbeats 1000000 in
/-- kelir/kelirref01.Row -/
theorem rrow_pure (w : List UInt8) (l : List Int) (hw : w.length ≤ 1000) (hl : l.length ≤ 1000) (hb : ∀ n ∈ l, 0 ≤ n ∧ n ≤ 1000000) : APure Tryz.prog 115 [S w, ints l] (S (w ++ numsL l)) := by
  refine apure_of (rs := [.tmp 4]) Tryz.func115 rfl rfl (Nat.le_of_ble_eq_true rfl) (by simp [AV.pureL, AV.pureB, AV.pureE, pureE_map]) (rfl) fun e0 he0 => ?_
  refine aw_seq (aw_region ?_)
  refine sq_ev rfl (ev_as (v := .raw _) (lr _)) ?_
  refine sq_nil (aw_seq (aw_seq (aw_region ?_)))
  refine sq_ev rfl (ev_as (v := .raw _) (lr _)) ?_
  refine sq_nil (aw_block ?_)
  refine aw_loopk (ι := { k : Nat // k ≤ l.length }) [1] (fun i => [(5, I i.1), (0, S (w ++ numsL (l.take i.1)))]) (fun H i => H) (fun i => l.length - i.1) (⟨0, Nat.zero_le _⟩) ⟨lr _, Less.eq (by show S w = _; simp [numsL]), lr _, trivial⟩ rfl ?_
  rintro ⟨k, hk⟩
  dsimp only [keepS, St.put, sget, slotsOf, List.map_cons, List.map_nil, List.cons_append, List.nil_append, List.length_cons, List.length_nil, Nat.reduceBEq, Nat.reduceAdd, cond_true, cond_false]
  have hnl := numsL_len l k (fun n h => by have := hb n h; omega)
  refine aw_seq (aw_seq (aw_region ?_))
  refine sq_ev rfl (ev_mv (v := .raw _) (lr _)) ?_
  refine sq_ev rfl (ev_mv (v := .sl _ _) (lr _)) ?_
  refine sq_ev rfl (ev_len_map sl34 (lr _)) ?_
  refine sq_ev rfl (ev_lss (lr _) (lr _)) ?_
  refine sq_nil ?_
  refine aw_cond (lr _) (fun c1 => ?_) (fun c1 => ?_)
  · skip
    have c1' := c1
    try simp only [qq1, qq2, qq3, qq4, qq5, qq6, qq7, qq8, qq9, qq10, qq11, qq12, qq13] at c1'
    have hk' : k < l.length := by omega
    have hv := hb _ (List.getElem_mem hk')
    have eL : S (w ++ numsL (l.take k) ++ [32] ++ Lib.itoa l[k]) = S (w ++ numsL (l.take (k + 1))) := by rw [numsL_take hk']; simp
    refine aw_skip (aw_seq (aw_block (aw_region ?_)))
    refine sq_ev rfl (ev_mv (v := .raw _) (lr _)) ?_
    refine sq_ev rfl (ev_catS (lr _) (lr _) (by simp; omega)) ?_
    refine sq_ev rfl (ev_mv (v := .sl _ _) (lr _)) ?_
    refine sq_ev rfl (ev_mv (v := .raw _) (lr _)) ?_
    refine sq_ev rfl (ev_index_map sl34 (lr _) (lr _) rfl (by omega)) ?_
    refine sq_ev rfl (ev_load_i (lr _) ty3 rfl) ?_
    refine sq_ev rfl (ev_call en116 (lr _) (rdecimal_pure _ hv) ⟨lr _, trivial⟩) ?_
    refine sq_ev rfl (ev_catS (lr _) (lr _) (by have := itoa_len (n := l[k]) (by omega); simp; omega)) ?_
    refine sq_ev rfl (ev_as (v := .raw _) (lr _)) ?_
    refine sq_nil (aw_region ?_)
    refine sq_ev rfl (ev_mv (v := .raw _) (lr _)) ?_
    refine sq_ev rfl (ev_add (lr _) (lr _) (wr (by omega) (by omega))) ?_
    refine sq_ev rfl (ev_as (v := .raw _) (lr _)) ?_
    refine sq_nil ?_
    exact ⟨⟨k + 1, by omega⟩, by simp only; omega, Sub.slots ⟨lr _, Less.eq eL, lr _, trivial⟩⟩
  · skip
    have c1' := c1
    try simp only [qq1, qq2, qq3, qq4, qq5, qq6, qq7, qq8, qq9, qq10, qq11, qq12, qq13] at c1'
    obtain rfl : k = l.length := by omega
    refine aw_exit (aw_seq (aw_region ?_))
    refine sq_ev rfl (ev_mv (v := .raw _) (lr _)) ?_
    refine sq_ev rfl (ev_as (v := .raw _) (lr _)) ?_
    refine sq_nil (aw_ret ?_)
    exact retQ_pure (v := .raw _) rfl rfl (Less.eq (by simp))

set_option maxHeartbeats 2000000 in
/-- kelir/kelirref01.Sealed -/
theorem rsealed_pure (ls : List (List UInt8)) (hl : ls.length ≤ 1500) (hb : ∀ l ∈ ls, l.length ≤ 1000) : APure Tryz.prog 117 [.sl 1 (ls.map fun l => [S l]), I 181] (S (sealL ls)) := by
 refine apure_of (rs := [.tmp 4]) Tryz.func117 rfl rfl (Nat.le_of_ble_eq_true rfl) (by simp [AV.pureL, AV.pureB, AV.pureE, pureE_map]) (rfl) fun e0 he0 => ?_
 refine aw_seq (aw_region ?_)
 refine sq_ev rfl (ev_as (v := .raw _) (lr _)) ?_
 refine sq_nil (aw_seq (aw_region ?_))
 refine sq_ev rfl (ev_as (v := .raw _) (lr _)) ?_
 refine sq_ev rfl (ev_as (v := .raw _) (lr _)) ?_
 refine sq_nil (aw_seq (aw_seq (aw_region ?_)))
 refine sq_ev rfl (ev_as (v := .raw _) (lr _)) ?_
 refine sq_nil (aw_block ?_)
 refine aw_loopk (ι := { i : Nat // i ≤ ls.length }) [0, 1] (fun i => [(7, I i.1), (5, S (outT ls i.1)), (6, I (ctT ls i.1))]) (fun H i => H) (fun i => ls.length - i.1) (⟨0, Nat.zero_le _⟩) ⟨lr _, lr _, lr _, lr _, lr _, trivial⟩ rfl ?_
 rintro ⟨i, hi⟩
 dsimp only [keepS, St.put, sget, slotsOf, List.map_cons, List.map_nil, List.cons_append, List.nil_append, List.length_cons, List.length_nil, Nat.reduceBEq, Nat.reduceAdd, cond_true, cond_false]
 have hol := outT_len hb i (by omega)
 have hct := ctT_bd (by omega) hb i (by omega)
 refine aw_seq (aw_seq (aw_region ?_))
 refine sq_ev rfl (ev_mv (v := .raw _) (lr _)) ?_
 refine sq_ev rfl (ev_mv (v := .sl _ _) (lr _)) ?_
 refine sq_ev rfl (ev_len_map sl138 (lr _)) ?_
 refine sq_ev rfl (ev_lss (lr _) (lr _)) ?_
 refine sq_nil ?_
 refine aw_cond (lr _) (fun c1 => ?_) (fun c1 => ?_)
 ·
  have c1' := c1
  try simp only [qq1, qq2, qq3, qq4, qq5, qq6, qq7, qq8, qq9, qq10, qq11, qq12, qq13] at c1'
  have hi3 : i < ls.length := by omega
  have hll := hb _ (List.getElem_mem hi3)
  refine aw_skip (aw_seq (aw_block (aw_seq (aw_seq (aw_region ?_)))))
  refine sq_ev rfl (ev_as (v := .raw _) (lr _)) ?_
  refine sq_nil (aw_block ?_)
  refine aw_loopk (ι := { k : Nat // k ≤ ls[i].length }) [0, 1, 5, 7] (fun k => [(8, I k.1), (6, I (ctT ls i + csT ((i : Int) + 1) ls[i] k.1))]) (fun H k => H) (fun k => ls[i].length - k.1) (⟨0, Nat.zero_le _⟩) ⟨lr _, (by exact less_int (by simp [csT])), lr _, lr _, lr _, lr _, trivial⟩ rfl ?_
  rintro ⟨k, hk⟩
  dsimp only [keepS, St.put, sget, slotsOf, List.map_cons, List.map_nil, List.cons_append, List.nil_append, List.length_cons, List.length_nil, Nat.reduceBEq, Nat.reduceAdd, cond_true, cond_false]
  have hcs := csT_bd (m := (i : Int) + 1) ⟨by omega, by omega⟩ ls[i] k hk hll
  refine aw_seq (aw_seq (aw_region ?_))
  refine sq_ev rfl (ev_mv (v := .raw _) (lr _)) ?_
  refine sq_ev rfl (ev_mv (v := .sl _ _) (lr _)) ?_
  refine sq_ev rfl (ev_mv (v := .raw _) (lr _)) ?_
  refine sq_ev rfl (ev_index_map sl138 (lr _) (lr _) rfl (by omega)) ?_
  refine sq_ev rfl (ev_load_i (lr _) ty9 rfl) ?_
  refine sq_ev rfl (ev_lenS Tryz.underlying9 (lr _)) ?_
  refine sq_ev rfl (ev_lss (lr _) (lr _)) ?_
  refine sq_nil ?_
  refine aw_cond (lr _) (fun c2 => ?_) (fun c2 => ?_)
  ·
   have c2' := c2
   try simp only [qq1, qq2, qq3, qq4, qq5, qq6, qq7, qq8, qq9, qq10, qq11, qq12, qq13] at c2'
   have hk' : k < ls[i].length := by omega
   have htb := term_bd (b := ls[i][k]) (j := k) (m := (i : Int) + 1) (by omega) ⟨by omega, by omega⟩
   have hb8 : (ls[i][k]).toNat < 256 := UInt8.toNat_lt _
   have eK : ctT ls i + csT ((i : Int) + 1) ls[i] k + (ls[i][k].toNat : Int) * ((k : Int) + 1) * ((i : Int) + 1) = ctT ls i + csT ((i : Int) + 1) ls[i] (k + 1) := by rw [csT_succ _ hk']; omega
   refine aw_skip (aw_seq (aw_block (aw_region ?_)))
   refine sq_ev rfl (ev_mv (v := .raw _) (lr _)) ?_
   refine sq_ev rfl (ev_mv (v := .sl _ _) (lr _)) ?_
   refine sq_ev rfl (ev_mv (v := .raw _) (lr _)) ?_
   refine sq_ev rfl (ev_index_map sl138 (lr _) (lr _) rfl (by omega)) ?_
   refine sq_ev rfl (ev_load_i (lr _) ty9 rfl) ?_
   refine sq_ev rfl (ev_mv (v := .raw _) (lr _)) ?_
   refine sq_ev rfl (ev_idxS Tryz.underlying9 (lr _) (lr _) rfl (by omega)) ?_
   refine sq_ev rfl (ev_conv_int Tryz.underlying5 Tryz.underlying3 (lr _) (wr (by omega) (by omega))) ?_
   refine sq_ev rfl (ev_mv (v := .raw _) (lr _)) ?_
   refine sq_ev rfl (ev_add (lr _) (lr _) (wr (by omega) (by omega))) ?_
   refine sq_ev rfl (ev_mul (lr _) (lr _) (wr (by omega) (by omega))) ?_
   refine sq_ev rfl (ev_mv (v := .raw _) (lr _)) ?_
   refine sq_ev rfl (ev_add (lr _) (lr _) (wr (by omega) (by omega))) ?_
   refine sq_ev rfl (ev_mul (lr _) (lr _) (wr (by omega) (by omega))) ?_
   refine sq_ev rfl (ev_add (lr _) (lr _) (wr (by omega) (by omega))) ?_
   refine sq_ev rfl (ev_as (v := .raw _) (lr _)) ?_
   refine sq_nil (aw_region ?_)
   refine sq_ev rfl (ev_mv (v := .raw _) (lr _)) ?_
   refine sq_ev rfl (ev_add (lr _) (lr _) (wr (by omega) (by omega))) ?_
   refine sq_ev rfl (ev_as (v := .raw _) (lr _)) ?_
   refine sq_nil ?_
   exact ⟨⟨k + 1, by omega⟩, by simp only; omega, Sub.slots ⟨lr _, (by exact less_int eK), lr _, lr _, lr _, lr _, trivial⟩⟩
  ·
   have c2' := c2
   try simp only [qq1, qq2, qq3, qq4, qq5, qq6, qq7, qq8, qq9, qq10, qq11, qq12, qq13] at c2'
   obtain rfl : k = ls[i].length := by omega
   have eO : S (outT ls i ++ ls[i] ++ [10]) = S (outT ls (i + 1)) := by rw [outT_succ hi3]; simp
   have eC : ctT ls i + csT ((i : Int) + 1) ls[i] ls[i].length = ctT ls (i + 1) := by rw [ctT_succ hi3]; rfl
   refine aw_exit (aw_region ?_)
   refine sq_ev rfl (ev_mv (v := .raw _) (lr _)) ?_
   refine sq_ev rfl (ev_mv (v := .sl _ _) (lr _)) ?_
   refine sq_ev rfl (ev_mv (v := .raw _) (lr _)) ?_
   refine sq_ev rfl (ev_index_map sl138 (lr _) (lr _) rfl (by omega)) ?_
   refine sq_ev rfl (ev_load_i (lr _) ty9 rfl) ?_
   refine sq_ev rfl (ev_catS (lr _) (lr _) (by omega)) ?_
   refine sq_ev rfl (ev_catS (lr _) (lr _) (by simp; omega)) ?_
   refine sq_ev rfl (ev_as (v := .raw _) (lr _)) ?_
   refine sq_nil (aw_region ?_)
   refine sq_ev rfl (ev_mv (v := .raw _) (lr _)) ?_
   refine sq_ev rfl (ev_add (lr _) (lr _) (wr (by omega) (by omega))) ?_
   refine sq_ev rfl (ev_as (v := .raw _) (lr _)) ?_
   refine sq_nil ?_
   exact ⟨⟨i + 1, by omega⟩, by simp only; omega, Sub.slots ⟨lr _, Less.eq eO, (by exact less_int eC), lr _, lr _, trivial⟩⟩
 ·
  have c1' := c1
  try simp only [qq1, qq2, qq3, qq4, qq5, qq6, qq7, qq8, qq9, qq10, qq11, qq12, qq13] at c1'
  obtain rfl : i = ls.length := by omega
  refine aw_exit (aw_seq (aw_region ?_))
  refine sq_ev rfl (ev_mv (v := .raw _) (lr _)) ?_
  refine sq_ev rfl (ev_mv (v := .raw _) (lr _)) ?_
  refine sq_ev rfl (ev_less (ev_rem (lr _) (lr _) (by decide)) (less_int (Int.tmod_eq_emod_of_nonneg (by omega)))) ?_
  refine sq_ev rfl (ev_as (v := .raw _) (lr _)) ?_
  refine sq_nil (aw_seq ?_)
  have i1 := itoa_len (n := ctT ls ls.length % 181 / 100) ⟨by omega, by omega⟩
  have i2 := itoa_len (n := ctT ls ls.length % 181 / 10 % 10) ⟨by omega, by omega⟩
  have i3 := itoa_len (n := ctT ls ls.length % 181 % 10) ⟨by omega, by omega⟩
  refine aw_region ?_
  refine sq_ev rfl (ev_mv (v := .raw _) (lr _)) ?_
  refine sq_ev rfl (ev_catS (lr _) (lr _) (by simp; omega)) ?_
  refine sq_ev rfl (ev_mv (v := .raw _) (lr _)) ?_
  refine sq_ev rfl (ev_quo (q := ctT ls ls.length % 181 / 100) (lr _) (lr _) (by decide) (qd (by omega) (by omega) (by decide))) ?_
  refine sq_ev rfl (ev_call en116 (lr _) (rdecimal_pure _ (by omega)) ⟨lr _, trivial⟩) ?_
  refine sq_ev rfl (ev_catS (lr _) (lr _) (by simp; omega)) ?_
  refine sq_ev rfl (ev_mv (v := .raw _) (lr _)) ?_
  refine sq_ev rfl (ev_quo (q := ctT ls ls.length % 181 / 10) (lr _) (lr _) (by decide) (qd (by omega) (by omega) (by decide))) ?_
  refine sq_ev rfl (ev_less (ev_rem (lr _) (lr _) (by decide)) (less_int (Int.tmod_eq_emod_of_nonneg (by omega)))) ?_
  refine sq_ev rfl (ev_call en116 (lr _) (rdecimal_pure _ (by omega)) ⟨lr _, trivial⟩) ?_
  refine sq_ev rfl (ev_catS (lr _) (lr _) (by simp; omega)) ?_
  refine sq_ev rfl (ev_mv (v := .raw _) (lr _)) ?_
  refine sq_ev rfl (ev_less (ev_rem (lr _) (lr _) (by decide)) (less_int (Int.tmod_eq_emod_of_nonneg (by omega)))) ?_
  refine sq_ev rfl (ev_call en116 (lr _) (rdecimal_pure _ (by omega)) ⟨lr _, trivial⟩) ?_
  refine sq_ev rfl (ev_catS (lr _) (lr _) (by simp; omega)) ?_
  refine sq_ev rfl (ev_catS (lr _) (lr _) (by simp; omega)) ?_
  refine sq_ev rfl (ev_as (v := .raw _) (lr _)) ?_
  refine sq_nil (aw_ret ?_)
  exact retQ_pure (v := .raw _) rfl rfl (Less.eq (by simp [sealL, digs3]))

/-- a plan whose numbers are no less than 0 -/
structure NnP (p : Pl) : Prop where
  head : ∀ n ∈ headL p, 0 ≤ n
  sc : ∀ x ∈ p.scenes, 0 ≤ x.part ∧ 0 ≤ x.least ∧ 0 ≤ x.most
theorem headL_eq (p : Pl) : headL p = [p.beg, p.s0l, p.s0h, p.s1l, p.s1h, p.dl, p.dh] := rfl
def wordL (x : Sc) : List UInt8 := if x.loose = true then wBattle else wScene
theorem line_yes {p : Pl} {x : Sc} (h : 0 ≤ x.wants) : wordL x ++ numsL [x.part, x.least, x.most] ++ [32] ++ Lib.itoa x.wants = lineL p (some x) := by simp [lineL, wordL, toldL, h, numsL]
theorem line_no {p : Pl} {x : Sc} (h : ¬ 0 ≤ x.wants) : wordL x ++ numsL [x.part, x.least, x.most] ++ [32] ++ [45] = lineL p (some x) := by simp [lineL, wordL, toldL, h, numsL]
theorem wordL_len (x : Sc) : (wordL x).length ≤ 6 := by unfold wordL; split <;> decide
theorem numsL3 {a b c : Int} (h : (0 ≤ a ∧ a ≤ 1000000) ∧ (0 ≤ b ∧ b ≤ 1000000) ∧ (0 ≤ c ∧ c ≤ 1000000)) : ∀ n ∈ [a, b, c], 0 ≤ n ∧ n ≤ 1000000 := by
  intro n hn; simp only [List.mem_cons, List.not_mem_nil, or_false] at hn; rcases hn with rfl | rfl | rfl <;> omega
theorem told3 {p : Pl} (sm : SmP p) (nn : NnP p) {x : Sc} (hx : x ∈ p.scenes) : ((0 ≤ x.part ∧ x.part ≤ 1000000) ∧ (0 ≤ x.least ∧ x.least ≤ 1000000) ∧ (0 ≤ x.most ∧ x.most ≤ 1000000)) ∧ (0 ≤ x.wants → x.wants ≤ 1000000) := by
  have h1 := sm.sc x hx
  have h2 := nn.sc x hx
  have a1 := h1 x.part (by simp [toldL]); have a2 := h1 x.least (by simp [toldL]); have a3 := h1 x.most (by simp [toldL])
  exact ⟨⟨⟨h2.1, a1.2⟩, ⟨h2.2.1, a2.2⟩, h2.2.2, a3.2⟩, fun h => (h1 x.wants (by simp [toldL, h])).2⟩
theorem nums3_len {a b c : Int} (h : (0 ≤ a ∧ a ≤ 1000000) ∧ (0 ≤ b ∧ b ≤ 1000000) ∧ (0 ≤ c ∧ c ≤ 1000000)) : (numsL [a, b, c]).length ≤ 27 :=
  numsL_len' [a, b, c] fun n hn => by have := numsL3 h n hn; omega
theorem inE_S (n : Nat) (l : List (List UInt8)) : AV.inE n (l.map fun x => [S x]) = true := inE_map fun x _ => by simp [AV.inL, AV.inB]
set_option maxHeartbeats 2000000 in
/-- kelir/kelirref03.Print -/
theorem rprint_pure (p : Pl) (sm : SmP p) (nn : NnP p) : APure Tryz.prog 52 [plan p] (S (sheetL p)) := by
  refine apure_of (rs := [.tmp 2]) Tryz.func52 rfl rfl (Nat.le_of_ble_eq_true rfl) (by simp [AV.pureL, AV.pureB, AV.pureE, pureE_map]) (by simp [AV.pureL, AV.pureB, AV.pureE, pureE_map]) fun e0 he0 => ?_
  refine aw_seq (aw_region ?_)
  refine sq_box rfl (lr _) rfl ?_
  refine sq_ev rfl (ev_as (v := .raw _) (lr _)) ?_
  refine sq_nil (aw_seq (aw_region ?_))
  refine sq_ev rfl (ev_fieldAddr fo27_0 (lr _)) ?_
  refine sq_ev rfl (ev_load (lr _) rfl ty3 rfl) ?_
  refine sq_ev rfl (ev_fieldAddr fo27_1 (lr _)) ?_
  refine sq_ev rfl (ev_index_box ar24 (lr _) (lr _) rfl (by decide)) ?_
  refine sq_ev rfl (ev_fieldAddr fo23_0 (lr _)) ?_
  refine sq_ev rfl (ev_load (lr _) rfl ty3 rfl) ?_
  refine sq_ev rfl (ev_fieldAddr fo27_1 (lr _)) ?_
  refine sq_ev rfl (ev_index_box ar24 (lr _) (lr _) rfl (by decide)) ?_
  refine sq_ev rfl (ev_fieldAddr fo23_1 (lr _)) ?_
  refine sq_ev rfl (ev_load (lr _) rfl ty3 rfl) ?_
  refine sq_ev rfl (ev_fieldAddr fo27_1 (lr _)) ?_
  refine sq_ev rfl (ev_index_box ar24 (lr _) (lr _) rfl (by decide)) ?_
  refine sq_ev rfl (ev_fieldAddr fo23_0 (lr _)) ?_
  refine sq_ev rfl (ev_load (lr _) rfl ty3 rfl) ?_
  refine sq_ev rfl (ev_fieldAddr fo27_1 (lr _)) ?_
  refine sq_ev rfl (ev_index_box ar24 (lr _) (lr _) rfl (by decide)) ?_
  refine sq_ev rfl (ev_fieldAddr fo23_1 (lr _)) ?_
  refine sq_ev rfl (ev_load (lr _) rfl ty3 rfl) ?_
  refine sq_ev rfl (ev_fieldAddr fo27_2 (lr _)) ?_
  refine sq_ev rfl (ev_fieldAddr fo23_0 (lr _)) ?_
  refine sq_ev rfl (ev_load (lr _) rfl ty3 rfl) ?_
  refine sq_ev rfl (ev_fieldAddr fo27_2 (lr _)) ?_
  refine sq_ev rfl (ev_fieldAddr fo23_1 (lr _)) ?_
  refine sq_ev rfl (ev_load (lr _) rfl ty3 rfl) ?_
  refine sq_ev rfl (ev_buildSlice (es := [[_], [_], [_], [_], [_], [_], [_]]) sf34 rfl rfl rfl rfl) ?_
  refine sq_ev rfl (ev_call en115 (lr _) (rrow_pure wNight (headL p) (by decide) (by rw [headL_eq]; simp) (fun n h => ⟨nn.head n h, (sm.head n h).2⟩)) ⟨lr _, less_slx _ _, trivial⟩) ?_
  refine sq_ev rfl (ev_buildSlice (es := [[_]]) sf138 rfl rfl rfl rfl) ?_
  refine sq_ev rfl (ev_as (v := .slx _ _) (lr _)) ?_
  refine sq_nil (aw_seq (aw_seq (aw_region ?_)))
  refine sq_ev rfl (ev_as (v := .raw _) (lr _)) ?_
  refine sq_nil (aw_block ?_)
  refine aw_sub (sub_token_slx 3 1 (lr _)) ?_
  refine aw_loopk (ι := { k : Nat // k ≤ p.scenes.length }) [1] (fun i => [(4, I i.1), (3, .own 1 1 (((rowsT p i.1).map (lineL p)).map fun l => [S l]))]) (fun H i => H.set 1 (.tok (((rowsT p i.1).map (lineL p)).map fun l => [S l]).length)) (fun i => p.scenes.length - i.1) (⟨0, Nat.zero_le _⟩) ⟨lr _, lr _, lr _, trivial⟩ rfl ?_
  rintro ⟨k, hk⟩
  dsimp only [keepS, St.put, sget, slotsOf, List.map_cons, List.map_nil, List.cons_append, List.nil_append, List.length_cons, List.length_nil, Nat.reduceBEq, Nat.reduceAdd, cond_true, cond_false]
  have hrl := rowsT_len hk
  have hsl := sm.len
  refine aw_seq (aw_seq (aw_region ?_))
  refine sq_ev rfl (ev_mv (v := .raw _) (lr _)) ?_
  refine sq_ev rfl (ev_fieldAddr fo27_3 (lr _)) ?_
  refine sq_ev rfl (ev_load (lr _) rfl ty25 rfl) ?_
  refine sq_ev rfl (ev_len_map sl25 (lr _)) ?_
  refine sq_ev rfl (ev_lss (lr _) (lr _)) ?_
  refine sq_nil ?_
  refine aw_cond (lr _) (fun c1 => ?_) (fun c1 => ?_)
  · skip
    have c1' := c1
    try simp only [qq1, qq2, qq3, qq4, qq5, qq6, qq7, qq8, qq9, qq10, qq11, qq12, qq13] at c1'
    have hk' : k < p.scenes.length := by omega
    have ht3 := told3 sm nn (List.getElem_mem hk')
    refine aw_skip (aw_seq (aw_block (aw_seq (aw_region ?_))))
    refine sq_ev rfl (ev_fieldAddr fo27_3 (lr _)) ?_
    refine sq_ev rfl (ev_load (lr _) rfl ty25 rfl) ?_
    refine sq_ev rfl (ev_mv (v := .raw _) (lr _)) ?_
    refine sq_ev rfl (ev_index_map sl25 (lr _) (lr _) rfl (by omega)) ?_
    refine sq_ev rfl (ev_load_agg_i (lr _) ty84 (Nat.le_of_ble_eq_true rfl)) ?_
    refine sq_alloc rfl z84 ?_
    refine sq_store rfl (lr _) (lr _) rfl rfl ty84 rfl rfl ?_
    refine sq_nil (aw_seq (aw_region ?_))
    refine sq_ev rfl (ev_as (v := .raw _) (lr _)) ?_
    refine sq_ev rfl (ev_as (v := .raw _) (lr _)) ?_
    refine sq_nil (aw_seq (aw_seq (aw_region ?_)))
    refine sq_ev rfl (ev_fieldAddr fo84_3 (lr _)) ?_
    refine sq_ev rfl (ev_load (lr _) rfl ty4 rfl) ?_
    refine sq_nil ?_
    refine aw_cond (lr _) (fun c2 => ?_) (fun c2 => ?_)
    · skip
      have c2' := c2
      try simp only [qq1, qq2, qq3, qq4, qq5, qq6, qq7, qq8, qq9, qq10, qq11, qq12, qq13] at c2'
      refine aw_region ?_
      refine sq_ev rfl (ev_as (v := .raw _) (lr _)) ?_
      refine sq_nil (aw_seq (aw_seq (aw_region ?_)))
      refine sq_ev rfl (ev_fieldAddr fo84_4 (lr _)) ?_
      refine sq_ev rfl (ev_load (lr _) rfl ty3 rfl) ?_
      refine sq_ev rfl (ev_geq (lr _) (lr _)) ?_
      refine sq_nil ?_
      refine aw_cond (lr _) (fun c3 => ?_) (fun c3 => ?_)
      · skip
        have c3' := c3
        try simp only [qq1, qq2, qq3, qq4, qq5, qq6, qq7, qq8, qq9, qq10, qq11, qq12, qq13] at c3'
        have hil := itoa_len (n := p.scenes[k].wants) ⟨by omega, ht3.2 (by omega)⟩
        have eS : ((rowsT p (k + 1)).map (lineL p)).map (fun l => [S l]) = ((rowsT p k).map (lineL p)).map (fun l => [S l]) ++ [[S (wBattle ++ numsL [p.scenes[k].part, p.scenes[k].least, p.scenes[k].most] ++ [32] ++ Lib.itoa p.scenes[k].wants)]] := by rw [rowsT_succ hk', List.map_append, List.map_append]; simp only [List.map_cons, List.map_nil]; rw [← line_yes (by omega : 0 ≤ p.scenes[k].wants), show wordL p.scenes[k] = wBattle by simp [wordL, c2']]
        refine aw_region ?_
        refine sq_ev rfl (ev_fieldAddr fo84_4 (lr _)) ?_
        refine sq_ev rfl (ev_load (lr _) rfl ty3 rfl) ?_
        refine sq_ev rfl (ev_call en116 (lr _) (rdecimal_pure _ ⟨by omega, ht3.2 (by omega)⟩) ⟨lr _, trivial⟩) ?_
        refine sq_ev rfl (ev_as (v := .raw _) (lr _)) ?_
        refine sq_nil (aw_region ?_)
        refine sq_ev rfl (ev_mv (v := .own _ _ _) (lr _)) ?_
        refine sq_ev rfl (ev_mv (v := .raw _) (lr _)) ?_
        refine sq_ev rfl (ev_fieldAddr fo84_0 (lr _)) ?_
        refine sq_ev rfl (ev_load (lr _) rfl ty3 rfl) ?_
        refine sq_ev rfl (ev_fieldAddr fo84_1 (lr _)) ?_
        refine sq_ev rfl (ev_load (lr _) rfl ty3 rfl) ?_
        refine sq_ev rfl (ev_fieldAddr fo84_2 (lr _)) ?_
        refine sq_ev rfl (ev_load (lr _) rfl ty3 rfl) ?_
        refine sq_ev rfl (ev_buildSlice (es := [[_], [_], [_]]) sf34 rfl rfl rfl rfl) ?_
        refine sq_ev rfl (ev_call en115 (lr _) (rrow_pure _ [_, _, _] (by decide) (by simp) (numsL3 ht3.1)) ⟨lr _, less_slx _ _, trivial⟩) ?_
        refine sq_ev rfl (ev_catS (lr _) (lr _) (by have := nums3_len ht3.1; have : wBattle.length = 6 := rfl; have : wScene.length = 5 := rfl; simp; omega)) ?_
        refine sq_ev rfl (ev_mv (v := .raw _) (lr _)) ?_
        refine sq_ev rfl (ev_catS (lr _) (lr _) (by have := nums3_len ht3.1; have : wBattle.length = 6 := rfl; have : wScene.length = 5 := rfl; simp; omega)) ?_
        refine sq_ev rfl (ev_buildSlice (es := [[_]]) sf138 rfl rfl rfl rfl) ?_
        refine sq_append rfl sf138 Tryz.underlying138 rfl rfl (less_slx _ _) (Nat.succ_pos _) (by simp; omega) (by simp; omega) ?_
        refine sq_ev rfl (ev_as (v := .own _ _ _) (lr _)) ?_
        refine sq_nil (aw_region ?_)
        refine sq_ev rfl (ev_mv (v := .raw _) (lr _)) ?_
        refine sq_ev rfl (ev_add (lr _) (lr _) (wr (by omega) (by omega))) ?_
        refine sq_ev rfl (ev_as (v := .raw _) (lr _)) ?_
        refine sq_nil ?_
        exact ⟨⟨k + 1, by omega⟩, by simp only; omega, Sub.fin 2 ⟨lr _, Less.eq (b := .own 1 1 (((rowsT p (k + 1)).map (lineL p)).map fun l => [S l])) (by rw [eS] <;> rfl), lr _, trivial⟩ (congrArg (fun n => [_, AObj.tok n]) (congrArg List.length eS.symm)) (by simp [slotsIn, objsIn, sget, keepS, AObj.inB, AV.inB, AV.inL, AV.inE, inE_map, inE_S, inE_ints, inE_sc, -List.map_append, -List.map_take, -List.map_map]) (by simp [slotsIn, objsIn, sget, keepS, AObj.inB, AV.inB, AV.inL, AV.inE, inE_map, inE_S, inE_ints, inE_sc, -List.map_append, -List.map_take, -List.map_map]) (by simp [he0])⟩
      · skip
        have c3' := c3
        try simp only [qq1, qq2, qq3, qq4, qq5, qq6, qq7, qq8, qq9, qq10, qq11, qq12, qq13] at c3'
        have eS : ((rowsT p (k + 1)).map (lineL p)).map (fun l => [S l]) = ((rowsT p k).map (lineL p)).map (fun l => [S l]) ++ [[S (wBattle ++ numsL [p.scenes[k].part, p.scenes[k].least, p.scenes[k].most] ++ [32] ++ [45])]] := by rw [rowsT_succ hk', List.map_append, List.map_append]; simp only [List.map_cons, List.map_nil]; rw [← line_no (by omega : ¬ 0 ≤ p.scenes[k].wants), show wordL p.scenes[k] = wBattle by simp [wordL, c2']]
        refine aw_skip (aw_region ?_)
        refine sq_ev rfl (ev_mv (v := .own _ _ _) (lr _)) ?_
        refine sq_ev rfl (ev_mv (v := .raw _) (lr _)) ?_
        refine sq_ev rfl (ev_fieldAddr fo84_0 (lr _)) ?_
        refine sq_ev rfl (ev_load (lr _) rfl ty3 rfl) ?_
        refine sq_ev rfl (ev_fieldAddr fo84_1 (lr _)) ?_
        refine sq_ev rfl (ev_load (lr _) rfl ty3 rfl) ?_
        refine sq_ev rfl (ev_fieldAddr fo84_2 (lr _)) ?_
        refine sq_ev rfl (ev_load (lr _) rfl ty3 rfl) ?_
        refine sq_ev rfl (ev_buildSlice (es := [[_], [_], [_]]) sf34 rfl rfl rfl rfl) ?_
        refine sq_ev rfl (ev_call en115 (lr _) (rrow_pure _ [_, _, _] (by decide) (by simp) (numsL3 ht3.1)) ⟨lr _, less_slx _ _, trivial⟩) ?_
        refine sq_ev rfl (ev_catS (lr _) (lr _) (by have := nums3_len ht3.1; have : wBattle.length = 6 := rfl; have : wScene.length = 5 := rfl; simp; omega)) ?_
        refine sq_ev rfl (ev_mv (v := .raw _) (lr _)) ?_
        refine sq_ev rfl (ev_catS (lr _) (lr _) (by have := nums3_len ht3.1; have : wBattle.length = 6 := rfl; have : wScene.length = 5 := rfl; simp; omega)) ?_
        refine sq_ev rfl (ev_buildSlice (es := [[_]]) sf138 rfl rfl rfl rfl) ?_
        refine sq_append rfl sf138 Tryz.underlying138 rfl rfl (less_slx _ _) (Nat.succ_pos _) (by simp; omega) (by simp; omega) ?_
        refine sq_ev rfl (ev_as (v := .own _ _ _) (lr _)) ?_
        refine sq_nil (aw_region ?_)
        refine sq_ev rfl (ev_mv (v := .raw _) (lr _)) ?_
        refine sq_ev rfl (ev_add (lr _) (lr _) (wr (by omega) (by omega))) ?_
        refine sq_ev rfl (ev_as (v := .raw _) (lr _)) ?_
        refine sq_nil ?_
        exact ⟨⟨k + 1, by omega⟩, by simp only; omega, Sub.fin 2 ⟨lr _, Less.eq (b := .own 1 1 (((rowsT p (k + 1)).map (lineL p)).map fun l => [S l])) (by rw [eS] <;> rfl), lr _, trivial⟩ (congrArg (fun n => [_, AObj.tok n]) (congrArg List.length eS.symm)) (by simp [slotsIn, objsIn, sget, keepS, AObj.inB, AV.inB, AV.inL, AV.inE, inE_map, inE_S, inE_ints, inE_sc, -List.map_append, -List.map_take, -List.map_map]) (by simp [slotsIn, objsIn, sget, keepS, AObj.inB, AV.inB, AV.inL, AV.inE, inE_map, inE_S, inE_ints, inE_sc, -List.map_append, -List.map_take, -List.map_map]) (by simp [he0])⟩
    · skip
      have c2' := c2
      try simp only [qq1, qq2, qq3, qq4, qq5, qq6, qq7, qq8, qq9, qq10, qq11, qq12, qq13] at c2'
      refine aw_skip (aw_seq (aw_seq (aw_region ?_)))
      refine sq_ev rfl (ev_fieldAddr fo84_4 (lr _)) ?_
      refine sq_ev rfl (ev_load (lr _) rfl ty3 rfl) ?_
      refine sq_ev rfl (ev_geq (lr _) (lr _)) ?_
      refine sq_nil ?_
      refine aw_cond (lr _) (fun c4 => ?_) (fun c4 => ?_)
      · skip
        have c4' := c4
        try simp only [qq1, qq2, qq3, qq4, qq5, qq6, qq7, qq8, qq9, qq10, qq11, qq12, qq13] at c4'
        have hil := itoa_len (n := p.scenes[k].wants) ⟨by omega, ht3.2 (by omega)⟩
        have eS : ((rowsT p (k + 1)).map (lineL p)).map (fun l => [S l]) = ((rowsT p k).map (lineL p)).map (fun l => [S l]) ++ [[S (wScene ++ numsL [p.scenes[k].part, p.scenes[k].least, p.scenes[k].most] ++ [32] ++ Lib.itoa p.scenes[k].wants)]] := by rw [rowsT_succ hk', List.map_append, List.map_append]; simp only [List.map_cons, List.map_nil]; rw [← line_yes (by omega : 0 ≤ p.scenes[k].wants), show wordL p.scenes[k] = wScene by simp [wordL, c2']]
        refine aw_region ?_
        refine sq_ev rfl (ev_fieldAddr fo84_4 (lr _)) ?_
        refine sq_ev rfl (ev_load (lr _) rfl ty3 rfl) ?_
        refine sq_ev rfl (ev_call en116 (lr _) (rdecimal_pure _ ⟨by omega, ht3.2 (by omega)⟩) ⟨lr _, trivial⟩) ?_
        refine sq_ev rfl (ev_as (v := .raw _) (lr _)) ?_
        refine sq_nil (aw_region ?_)
        refine sq_ev rfl (ev_mv (v := .own _ _ _) (lr _)) ?_
        refine sq_ev rfl (ev_mv (v := .raw _) (lr _)) ?_
        refine sq_ev rfl (ev_fieldAddr fo84_0 (lr _)) ?_
        refine sq_ev rfl (ev_load (lr _) rfl ty3 rfl) ?_
        refine sq_ev rfl (ev_fieldAddr fo84_1 (lr _)) ?_
        refine sq_ev rfl (ev_load (lr _) rfl ty3 rfl) ?_
        refine sq_ev rfl (ev_fieldAddr fo84_2 (lr _)) ?_
        refine sq_ev rfl (ev_load (lr _) rfl ty3 rfl) ?_
        refine sq_ev rfl (ev_buildSlice (es := [[_], [_], [_]]) sf34 rfl rfl rfl rfl) ?_
        refine sq_ev rfl (ev_call en115 (lr _) (rrow_pure _ [_, _, _] (by decide) (by simp) (numsL3 ht3.1)) ⟨lr _, less_slx _ _, trivial⟩) ?_
        refine sq_ev rfl (ev_catS (lr _) (lr _) (by have := nums3_len ht3.1; have : wBattle.length = 6 := rfl; have : wScene.length = 5 := rfl; simp; omega)) ?_
        refine sq_ev rfl (ev_mv (v := .raw _) (lr _)) ?_
        refine sq_ev rfl (ev_catS (lr _) (lr _) (by have := nums3_len ht3.1; have : wBattle.length = 6 := rfl; have : wScene.length = 5 := rfl; simp; omega)) ?_
        refine sq_ev rfl (ev_buildSlice (es := [[_]]) sf138 rfl rfl rfl rfl) ?_
        refine sq_append rfl sf138 Tryz.underlying138 rfl rfl (less_slx _ _) (Nat.succ_pos _) (by simp; omega) (by simp; omega) ?_
        refine sq_ev rfl (ev_as (v := .own _ _ _) (lr _)) ?_
        refine sq_nil (aw_region ?_)
        refine sq_ev rfl (ev_mv (v := .raw _) (lr _)) ?_
        refine sq_ev rfl (ev_add (lr _) (lr _) (wr (by omega) (by omega))) ?_
        refine sq_ev rfl (ev_as (v := .raw _) (lr _)) ?_
        refine sq_nil ?_
        exact ⟨⟨k + 1, by omega⟩, by simp only; omega, Sub.fin 2 ⟨lr _, Less.eq (b := .own 1 1 (((rowsT p (k + 1)).map (lineL p)).map fun l => [S l])) (by rw [eS] <;> rfl), lr _, trivial⟩ (congrArg (fun n => [_, AObj.tok n]) (congrArg List.length eS.symm)) (by simp [slotsIn, objsIn, sget, keepS, AObj.inB, AV.inB, AV.inL, AV.inE, inE_map, inE_S, inE_ints, inE_sc, -List.map_append, -List.map_take, -List.map_map]) (by simp [slotsIn, objsIn, sget, keepS, AObj.inB, AV.inB, AV.inL, AV.inE, inE_map, inE_S, inE_ints, inE_sc, -List.map_append, -List.map_take, -List.map_map]) (by simp [he0])⟩
      · skip
        have c4' := c4
        try simp only [qq1, qq2, qq3, qq4, qq5, qq6, qq7, qq8, qq9, qq10, qq11, qq12, qq13] at c4'
        have eS : ((rowsT p (k + 1)).map (lineL p)).map (fun l => [S l]) = ((rowsT p k).map (lineL p)).map (fun l => [S l]) ++ [[S (wScene ++ numsL [p.scenes[k].part, p.scenes[k].least, p.scenes[k].most] ++ [32] ++ [45])]] := by rw [rowsT_succ hk', List.map_append, List.map_append]; simp only [List.map_cons, List.map_nil]; rw [← line_no (by omega : ¬ 0 ≤ p.scenes[k].wants), show wordL p.scenes[k] = wScene by simp [wordL, c2']]
        refine aw_skip (aw_region ?_)
        refine sq_ev rfl (ev_mv (v := .own _ _ _) (lr _)) ?_
        refine sq_ev rfl (ev_mv (v := .raw _) (lr _)) ?_
        refine sq_ev rfl (ev_fieldAddr fo84_0 (lr _)) ?_
        refine sq_ev rfl (ev_load (lr _) rfl ty3 rfl) ?_
        refine sq_ev rfl (ev_fieldAddr fo84_1 (lr _)) ?_
        refine sq_ev rfl (ev_load (lr _) rfl ty3 rfl) ?_
        refine sq_ev rfl (ev_fieldAddr fo84_2 (lr _)) ?_
        refine sq_ev rfl (ev_load (lr _) rfl ty3 rfl) ?_
        refine sq_ev rfl (ev_buildSlice (es := [[_], [_], [_]]) sf34 rfl rfl rfl rfl) ?_
        refine sq_ev rfl (ev_call en115 (lr _) (rrow_pure _ [_, _, _] (by decide) (by simp) (numsL3 ht3.1)) ⟨lr _, less_slx _ _, trivial⟩) ?_
        refine sq_ev rfl (ev_catS (lr _) (lr _) (by have := nums3_len ht3.1; have : wBattle.length = 6 := rfl; have : wScene.length = 5 := rfl; simp; omega)) ?_
        refine sq_ev rfl (ev_mv (v := .raw _) (lr _)) ?_
        refine sq_ev rfl (ev_catS (lr _) (lr _) (by have := nums3_len ht3.1; have : wBattle.length = 6 := rfl; have : wScene.length = 5 := rfl; simp; omega)) ?_
        refine sq_ev rfl (ev_buildSlice (es := [[_]]) sf138 rfl rfl rfl rfl) ?_
        refine sq_append rfl sf138 Tryz.underlying138 rfl rfl (less_slx _ _) (Nat.succ_pos _) (by simp; omega) (by simp; omega) ?_
        refine sq_ev rfl (ev_as (v := .own _ _ _) (lr _)) ?_
        refine sq_nil (aw_region ?_)
        refine sq_ev rfl (ev_mv (v := .raw _) (lr _)) ?_
        refine sq_ev rfl (ev_add (lr _) (lr _) (wr (by omega) (by omega))) ?_
        refine sq_ev rfl (ev_as (v := .raw _) (lr _)) ?_
        refine sq_nil ?_
        exact ⟨⟨k + 1, by omega⟩, by simp only; omega, Sub.fin 2 ⟨lr _, Less.eq (b := .own 1 1 (((rowsT p (k + 1)).map (lineL p)).map fun l => [S l])) (by rw [eS] <;> rfl), lr _, trivial⟩ (congrArg (fun n => [_, AObj.tok n]) (congrArg List.length eS.symm)) (by simp [slotsIn, objsIn, sget, keepS, AObj.inB, AV.inB, AV.inL, AV.inE, inE_map, inE_S, inE_ints, inE_sc, -List.map_append, -List.map_take, -List.map_map]) (by simp [slotsIn, objsIn, sget, keepS, AObj.inB, AV.inB, AV.inL, AV.inE, inE_map, inE_S, inE_ints, inE_sc, -List.map_append, -List.map_take, -List.map_map]) (by simp [he0])⟩
  · skip
    have c1' := c1
    try simp only [qq1, qq2, qq3, qq4, qq5, qq6, qq7, qq8, qq9, qq10, qq11, qq12, qq13] at c1'
    obtain rfl : k = p.scenes.length := by omega
    have hll0 : (linesL p).length = p.scenes.length + 1 := by show ((rowsT p p.scenes.length).map (lineL p)).length = _; simp [hrl]
    refine aw_exit (aw_seq (aw_region ?_))
    refine sq_ev rfl (ev_mv (v := .own _ _ _) (lr _)) ?_
    refine sq_ev rfl (ev_call en117 (lr _) (rsealed_pure (linesL p) (by omega) (lineL_len sm)) ⟨less_own _ _ _, lr _, trivial⟩) ?_
    refine sq_ev rfl (ev_as (v := .raw _) (lr _)) ?_
    refine sq_nil (aw_ret ?_)
    exact retQ_pure (v := .raw _) rfl rfl (Less.eq (by rfl))


end Go.Proofs.YtjghdbdiejaacaaGreatDoor

namespace Go.Proofs.YtjghdbdiejaacaaGreatDoor
open Go Go.Ab Ni
theorem en40 : Ent Tryz.prog 40 := Ent.of Tryz.func40 (by kernel_rfl) rfl
theorem en41 : Ent Tryz.prog 41 := Ent.of Tryz.func41 (by kernel_rfl) rfl
theorem en83 : Ent Tryz.prog 83 := Ent.of Tryz.func83 (by kernel_rfl) rfl
theorem sl43 : slElem Tryz.prog 43 = some (23, 2) := by kernel_rfl
theorem sl57 : slElem Tryz.prog 57 = some (92, 1) := by kernel_rfl
theorem ty92 : tySz Tryz.prog 92 = some (false, 1) := by kernel_rfl

theorem fieldsOf_st {P : Program} {t : TypeId} {fs : Array Field} (h : P.underlying t = some (.struct fs)) : P.fieldsOf t = fs := by unfold Program.fieldsOf; rw [h]
theorem spanEq (a b c d : Int) (w : World) : (Op.equalIn 10000 23 (.agg #[.int .i64 a, .int .i64 b]) (.agg #[.int .i64 c, .int .i64 d])).run Tryz.prog w = .ok (decide (a = c) && decide (b = d)) w := by
  have h3 : Tryz.prog.underlying 3 = some (.int .i64) := Tryz.underlying3
  rw [run_equalIn_struct w 9999 23 _ _ (by rw [fieldsOf_st Tryz.underlying23]; exact Tryz.underlying23) (by kernel_rfl), fieldsOf_st Tryz.underlying23]
  have p0 : ∀ (x y : Int) (w : World), (part 3 #[.int .i64 x, .int .i64 y] 0).run Tryz.prog w = .ok (.int .i64 x) w := fun x y w => by
    simp [part, Tryz.isAgg3]
  have p1 : ∀ (x y : Int) (w : World), (part 3 #[.int .i64 x, .int .i64 y] 1).run Tryz.prog w = .ok (.int .i64 y) w := fun x y w => by
    simp [part, Tryz.isAgg3]
  simp [Op.eqFields, p0, p1, run_equalIn_int _ _ _ _ _ _ _ h3]
  by_cases h1 : a = c <;> by_cases h2 : b = d <;> simp [h1, h2]
section
variable {r : Option Nat} {H : List AObj} {ρ : Operand → AV} {d : Option Tmp} {t : TypeId} {p : String} {af : Array Edge} {g : Option (Nat × Bool)} {x y : Operand} {yt : TypeId} {a b c e : Int}
theorem ev_span_neq (hx : Less (ρ x) (.agg [I a, I b])) (hy : Less (ρ y) (.agg [I c, I e])) : Ev Tryz.prog r ⟨d, .binOp .neq 23 x y yt, t, p, af, g⟩ H ρ (B (!(decide (a = c) && decide (b = e)))) :=
  ev_neq_agg (by kernel_rfl) (spanEq a b c e) (Less.trans hx (less_agg_raw (vs := [.int .i64 a, .int .i64 b]) rfl)) (Less.trans hy (less_agg_raw (vs := [.int .i64 c, .int .i64 e]) rfl))
theorem ev_span_eql (hx : Less (ρ x) (.agg [I a, I b])) (hy : Less (ρ y) (.agg [I c, I e])) : Ev Tryz.prog r ⟨d, .binOp .eql 23 x y yt, t, p, af, g⟩ H ρ (B (decide (a = c) && decide (b = e))) :=
  ev_eql_agg (by kernel_rfl) (spanEq a b c e) (Less.trans hx (less_agg_raw (vs := [.int .i64 a, .int .i64 b]) rfl)) (Less.trans hy (less_agg_raw (vs := [.int .i64 c, .int .i64 e]) rfl))
end
abbrev p0 : Pl := ⟨0, 60, 70, 120, 130, 180, 200, [⟨0, 40, 50, false, -1⟩, ⟨0, 20, 30, true, -1⟩, ⟨1, 50, 60, false, -1⟩, ⟨1, 30, 40, true, 1⟩, ⟨2, 55, 70, false, -1⟩]⟩
abbrev q0 : Pl := ⟨0, 60, 70, 120, 130, 210, 220, [⟨0, 40, 50, false, -1⟩, ⟨0, 20, 30, true, -1⟩, ⟨1, 50, 60, false, -1⟩, ⟨1, 30, 40, true, 1⟩, ⟨2, 55, 70, false, -1⟩]⟩
def narP (p : Pl) (k : Nat) (a b : Int) : Pl := if k = 0 then { p with s0l := a, s0h := b } else if k = 1 then { p with s1l := a, s1h := b } else { p with dl := a, dh := b }
def sspBad (a b : List (Int × Int)) (h : a.length = b.length) (i : Nat) (hi : i < a.length) : Bool := !decide (a[i] = b[i]'(by omega))
theorem ssp_okAll {a b : List (Int × Int)} (h : a.length = b.length) : okAll a.length (sspBad a b h) = decide (a = b) := by
  rw [Bool.eq_iff_iff, okAll_iff, decide_eq_true_eq]
  constructor
  · intro k
    exact List.ext_getElem h fun i h1 h2 => by have := k i h1; simpa [sspBad] using this
  · rintro rfl i hi; simp [sspBad]
set_option maxHeartbeats 400000 in
/-- kelir/kelirlaw03.span -/
theorem rspan_pure (a b : Int) : APure Tryz.prog 41 [I a, I b] (.agg [I a, I b]) := by
  refine apure_of (rs := [.cell 4 23]) Tryz.func41 rfl rfl (Nat.le_of_ble_eq_true rfl) (by simp [AV.pureL, AV.pureB, AV.pureE, pureE_map]) (rfl) fun e0 he0 => ?_
  refine aw_seq (aw_region ?_)
  refine sq_alloc rfl z23 ?_
  refine sq_nil (aw_seq (aw_region ?_))
  refine sq_ev rfl (ev_mv (v := .raw _) (lr _)) ?_
  refine sq_ev rfl (ev_mv (v := .raw _) (lr _)) ?_
  refine sq_ev rfl (ev_build bi23 rfl) ?_
  refine sq_store rfl (lr _) (lr _) rfl rfl ty23 rfl rfl ?_
  refine sq_nil (aw_ret ?_)
  exact retQ_res (vs := [.agg _]) rfl rfl ⟨resVar_cell rfl rfl ty23 rfl, trivial⟩ (lr _)

set_option maxHeartbeats 1000000 in
/-- kelir/kelirlaw03.P -/
theorem rP_pure  : APure Tryz.prog 83 [] (plan p0) := by
 refine apure_of (rs := [.cell 0 27]) Tryz.func83 rfl rfl (Nat.le_of_ble_eq_true rfl) (by simp [AV.pureL, AV.pureB, AV.pureE, pureE_map]) (by simp [AV.pureL, AV.pureB, AV.pureE, pureE_map]) fun e0 he0 => ?_
 refine aw_seq (aw_region ?_)
 refine sq_alloc rfl z27 ?_
 refine sq_nil (aw_seq (aw_region ?_))
 refine sq_ev rfl (ev_call en41 (lr _) (rspan_pure _ _) ⟨lr _, lr _, trivial⟩) ?_
 refine sq_ev rfl (ev_call en41 (lr _) (rspan_pure _ _) ⟨lr _, lr _, trivial⟩) ?_
 refine sq_ev rfl (ev_build bi24 rfl) ?_
 refine sq_ev rfl (ev_call en41 (lr _) (rspan_pure _ _) ⟨lr _, lr _, trivial⟩) ?_
 refine sq_ev rfl (ev_build bi84 rfl) ?_
 refine sq_ev rfl (ev_build bi84 rfl) ?_
 refine sq_ev rfl (ev_build bi84 rfl) ?_
 refine sq_ev rfl (ev_build bi84 rfl) ?_
 refine sq_ev rfl (ev_build bi84 rfl) ?_
 refine sq_ev rfl (ev_buildSlice (es := [[_, _, _, _, _], [_, _, _, _, _], [_, _, _, _, _], [_, _, _, _, _], [_, _, _, _, _]]) sf25 rfl rfl rfl rfl) ?_
 refine sq_ev rfl (ev_build bi27 rfl) ?_
 refine sq_store rfl (lr _) (lr _) rfl rfl ty27 rfl rfl ?_
 refine sq_nil (aw_ret ?_)
 exact retQ_res (vs := [.agg _]) rfl rfl ⟨resVar_cell rfl rfl ty27 rfl, trivial⟩ (less_agg ⟨lr _, lr _, lr _, lr _, lr _, lr _, lr _, less_slx _ _, trivial⟩)

set_option maxHeartbeats 400000 in
/-- kelir/kelirref03.Narrow -/
theorem rnarrow0_pure (p : Pl) (a b : Int) : APure Tryz.prog 40 [plan p, I 0, .agg [I a, I b]] (plan (narP p 0 a b)) := by
 refine apure_of (rs := [.cell 6 27]) Tryz.func40 rfl rfl (Nat.le_of_ble_eq_true rfl) (by simp [AV.pureL, AV.pureB, AV.pureE, pureE_map]) (by simp [AV.pureL, AV.pureB, AV.pureE, pureE_map]) fun e0 he0 => ?_
 refine aw_seq (aw_region ?_)
 refine sq_box rfl (lr _) rfl ?_
 refine sq_box rfl (lr _) rfl ?_
 refine sq_alloc rfl z27 ?_
 refine sq_nil (aw_seq (aw_seq (aw_region ?_)))
 refine sq_ev rfl (ev_mv (v := .raw _) (lr _)) ?_
 refine sq_ev rfl (ev_eql (lr _) (lr _)) ?_
 refine sq_nil ?_
 refine aw_cond (lr _) (fun c1 => ?_) (fun c1 => ?_)
 ·
  have c1' := c1
  try simp only [qq1, qq2, qq3, qq4, qq5, qq6, qq7, qq8, qq9, qq10, qq11, qq12, qq13] at c1'
  cases c1
 ·
  have c1' := c1
  try simp only [qq1, qq2, qq3, qq4, qq5, qq6, qq7, qq8, qq9, qq10, qq11, qq12, qq13] at c1'
  refine aw_region ?_
  refine sq_ev rfl (ev_mv (v := .raw _) (lr _)) ?_
  refine sq_ev rfl (ev_load_agg (lr _) rfl ty23 rfl) ?_
  refine sq_ev rfl (ev_fieldAddr fo27_1 (lr _)) ?_
  refine sq_ev rfl (ev_index_box (k := 0) ar24 (lr _) (lr _) rfl (by decide)) ?_
  refine sq_store rfl (lr _) (lr _) rfl rfl ty23 rfl rfl ?_
  refine sq_nil (aw_seq (aw_region ?_))
  refine sq_ev rfl (ev_load_agg (lr _) rfl ty27 rfl) ?_
  refine sq_store rfl (lr _) (lr _) rfl rfl ty27 rfl rfl ?_
  refine sq_nil (aw_ret ?_)
  exact retQ_res (vs := [.agg _]) rfl rfl ⟨resVar_cell rfl rfl ty27 rfl, trivial⟩ (lr _)

set_option maxHeartbeats 400000 in
/-- kelir/kelirref03.Narrow -/
theorem rnarrow1_pure (p : Pl) (a b : Int) : APure Tryz.prog 40 [plan p, I 1, .agg [I a, I b]] (plan (narP p 1 a b)) := by
 refine apure_of (rs := [.cell 6 27]) Tryz.func40 rfl rfl (Nat.le_of_ble_eq_true rfl) (by simp [AV.pureL, AV.pureB, AV.pureE, pureE_map]) (by simp [AV.pureL, AV.pureB, AV.pureE, pureE_map]) fun e0 he0 => ?_
 refine aw_seq (aw_region ?_)
 refine sq_box rfl (lr _) rfl ?_
 refine sq_box rfl (lr _) rfl ?_
 refine sq_alloc rfl z27 ?_
 refine sq_nil (aw_seq (aw_seq (aw_region ?_)))
 refine sq_ev rfl (ev_mv (v := .raw _) (lr _)) ?_
 refine sq_ev rfl (ev_eql (lr _) (lr _)) ?_
 refine sq_nil ?_
 refine aw_cond (lr _) (fun c1 => ?_) (fun c1 => ?_)
 ·
  have c1' := c1
  try simp only [qq1, qq2, qq3, qq4, qq5, qq6, qq7, qq8, qq9, qq10, qq11, qq12, qq13] at c1'
  cases c1
 ·
  have c1' := c1
  try simp only [qq1, qq2, qq3, qq4, qq5, qq6, qq7, qq8, qq9, qq10, qq11, qq12, qq13] at c1'
  refine aw_region ?_
  refine sq_ev rfl (ev_mv (v := .raw _) (lr _)) ?_
  refine sq_ev rfl (ev_load_agg (lr _) rfl ty23 rfl) ?_
  refine sq_ev rfl (ev_fieldAddr fo27_1 (lr _)) ?_
  refine sq_ev rfl (ev_index_box (k := 1) ar24 (lr _) (lr _) rfl (by decide)) ?_
  refine sq_store rfl (lr _) (lr _) rfl rfl ty23 rfl rfl ?_
  refine sq_nil (aw_seq (aw_region ?_))
  refine sq_ev rfl (ev_load_agg (lr _) rfl ty27 rfl) ?_
  refine sq_store rfl (lr _) (lr _) rfl rfl ty27 rfl rfl ?_
  refine sq_nil (aw_ret ?_)
  exact retQ_res (vs := [.agg _]) rfl rfl ⟨resVar_cell rfl rfl ty27 rfl, trivial⟩ (lr _)

set_option maxHeartbeats 400000 in
/-- kelir/kelirref03.Narrow -/
theorem rnarrow2_pure (p : Pl) (a b : Int) : APure Tryz.prog 40 [plan p, I 2, .agg [I a, I b]] (plan (narP p 2 a b)) := by
 refine apure_of (rs := [.cell 6 27]) Tryz.func40 rfl rfl (Nat.le_of_ble_eq_true rfl) (by simp [AV.pureL, AV.pureB, AV.pureE, pureE_map]) (by simp [AV.pureL, AV.pureB, AV.pureE, pureE_map]) fun e0 he0 => ?_
 refine aw_seq (aw_region ?_)
 refine sq_box rfl (lr _) rfl ?_
 refine sq_box rfl (lr _) rfl ?_
 refine sq_alloc rfl z27 ?_
 refine sq_nil (aw_seq (aw_seq (aw_region ?_)))
 refine sq_ev rfl (ev_mv (v := .raw _) (lr _)) ?_
 refine sq_ev rfl (ev_eql (lr _) (lr _)) ?_
 refine sq_nil ?_
 refine aw_cond (lr _) (fun c1 => ?_) (fun c1 => ?_)
 ·
  have c1' := c1
  try simp only [qq1, qq2, qq3, qq4, qq5, qq6, qq7, qq8, qq9, qq10, qq11, qq12, qq13] at c1'
  refine aw_region ?_
  refine sq_ev rfl (ev_load_agg (lr _) rfl ty23 rfl) ?_
  refine sq_ev rfl (ev_fieldAddr fo27_2 (lr _)) ?_
  refine sq_store rfl (lr _) (lr _) rfl rfl ty23 rfl rfl ?_
  refine sq_nil (aw_seq (aw_region ?_))
  refine sq_ev rfl (ev_load_agg (lr _) rfl ty27 rfl) ?_
  refine sq_store rfl (lr _) (lr _) rfl rfl ty27 rfl rfl ?_
  refine sq_nil (aw_ret ?_)
  exact retQ_res (vs := [.agg _]) rfl rfl ⟨resVar_cell rfl rfl ty27 rfl, trivial⟩ (lr _)
 ·
  have c1' := c1
  try simp only [qq1, qq2, qq3, qq4, qq5, qq6, qq7, qq8, qq9, qq10, qq11, qq12, qq13] at c1'
  cases c1

set_option maxHeartbeats 1000000 in
/-- kelir/kelirlaw03.Q -/
theorem rQ_pure  : APure Tryz.prog 84 [] (plan q0) := by
 refine apure_of (rs := [.cell 0 27]) Tryz.func84 rfl rfl (Nat.le_of_ble_eq_true rfl) (by simp [AV.pureL, AV.pureB, AV.pureE, pureE_map]) (by simp [AV.pureL, AV.pureB, AV.pureE, pureE_map]) fun e0 he0 => ?_
 refine aw_seq (aw_region ?_)
 refine sq_alloc rfl z27 ?_
 refine sq_nil (aw_seq (aw_region ?_))
 refine sq_ev rfl (ev_call en83 (lr _) (rP_pure) trivial) ?_
 refine sq_ev rfl (ev_call en41 (lr _) (rspan_pure _ _) ⟨lr _, lr _, trivial⟩) ?_
 refine sq_ev rfl (ev_call en40 (lr _) (rnarrow2_pure p0 210 220) ⟨lr _, lr _, lr _, trivial⟩) ?_
 refine sq_store rfl (lr _) (lr _) rfl rfl ty27 rfl rfl ?_
 refine sq_nil (aw_ret ?_)
 exact retQ_res (vs := [.agg _]) rfl rfl ⟨resVar_cell rfl rfl ty27 rfl, trivial⟩ (lr _)

set_option maxHeartbeats 1000000 in
/-- kelir/kelirref03.SameSpans -/
theorem rspans_pure (a b : List (Int × Int)) (ha : a.length ≤ 100000000) (hb : b.length ≤ 100000000) : APure Tryz.prog 33 [spans a, spans b] (B (decide (a = b))) := by
 refine apure_of (rs := [.tmp 4]) Tryz.func33 rfl rfl (Nat.le_of_ble_eq_true rfl) (by simp [AV.pureL, AV.pureB, AV.pureE, pureE_map]) (rfl) fun e0 he0 => ?_
 refine aw_seq (aw_region ?_)
 refine sq_ev rfl (ev_as (v := .raw _) (lr _)) ?_
 refine sq_nil (aw_seq (aw_seq (aw_region ?_)))
 refine sq_ev rfl (ev_mv (v := .sl _ _) (lr _)) ?_
 refine sq_ev rfl (ev_len_map sl43 (lr _)) ?_
 refine sq_ev rfl (ev_mv (v := .sl _ _) (lr _)) ?_
 refine sq_ev rfl (ev_len_map sl43 (lr _)) ?_
 refine sq_ev rfl (ev_neq (lr _) (lr _)) ?_
 refine sq_nil ?_
 refine aw_cond (lr _) (fun c1 => ?_) (fun c1 => ?_)
 ·
  have c1' := c1
  try simp only [qq1, qq2, qq3, qq4, qq5, qq6, qq7, qq8, qq9, qq10, qq11, qq12, qq13] at c1'
  refine aw_seq (aw_region ?_)
  refine sq_ev rfl (ev_as (v := .raw _) (lr _)) ?_
  refine sq_nil (aw_ret ?_)
  exact retQ_pure (v := .raw _) rfl rfl (Less.eq (by rw [show decide (a = b) = false from (by simp only [decide_eq_false_iff_not]; rintro rfl; exact c1' rfl)]))
 ·
  have c1' := c1
  try simp only [qq1, qq2, qq3, qq4, qq5, qq6, qq7, qq8, qq9, qq10, qq11, qq12, qq13] at c1'
  have hlen : a.length = b.length := by omega
  refine aw_skip (aw_seq (aw_seq (aw_region ?_)))
  refine sq_ev rfl (ev_as (v := .raw _) (lr _)) ?_
  refine sq_nil (aw_block ?_)
  refine aw_loopk (ι := { k : Nat // k ≤ a.length ∧ ∀ i, (h : i < a.length) → i < k → sspBad a b hlen i h = false }) [0, 1] (fun i => [(5, I i.1)]) (fun H i => H) (fun i => a.length - i.1) (⟨0, Nat.zero_le _, by omega⟩) ⟨lr _, lr _, lr _, trivial⟩ rfl ?_
  rintro ⟨k, hk, hok⟩
  dsimp only [keepS, St.put, sget, slotsOf, List.map_cons, List.map_nil, List.cons_append, List.nil_append, List.length_cons, List.length_nil, Nat.reduceBEq, Nat.reduceAdd, cond_true, cond_false]
  refine aw_seq (aw_seq (aw_region ?_))
  refine sq_ev rfl (ev_mv (v := .raw _) (lr _)) ?_
  refine sq_ev rfl (ev_mv (v := .sl _ _) (lr _)) ?_
  refine sq_ev rfl (ev_len_map sl43 (lr _)) ?_
  refine sq_ev rfl (ev_lss (lr _) (lr _)) ?_
  refine sq_nil ?_
  refine aw_cond (lr _) (fun c2 => ?_) (fun c2 => ?_)
  ·
   have c2' := c2
   try simp only [qq1, qq2, qq3, qq4, qq5, qq6, qq7, qq8, qq9, qq10, qq11, qq12, qq13] at c2'
   refine aw_skip (aw_seq (aw_block (aw_seq ?_)))
   refine aw_draw 9 mo (by kernel_rfl) ?_
   refine dr_ev rfl (ev_mv (v := .sl _ _) (lr _)) ?_
   refine dr_ev rfl (ev_mv (v := .raw _) (lr _)) ?_
   refine dr_ev rfl (ev_index_map sl43 (lr _) (lr _) rfl (by omega)) ?_
   refine dr_ev rfl (ev_load_agg_i (lr _) ty23 (Nat.le_of_ble_eq_true rfl)) ?_
   refine dr_ev rfl (ev_mv (v := .sl _ _) (lr _)) ?_
   refine dr_ev rfl (ev_mv (v := .raw _) (lr _)) ?_
   refine dr_ev rfl (ev_index_map sl43 (lr _) (lr _) rfl (by omega)) ?_
   refine dr_ev rfl (ev_load_agg_i (lr _) ty23 (Nat.le_of_ble_eq_true rfl)) ?_
   refine dr_ev rfl (ev_span_neq (lr _) (lr _)) ?_
   refine dr_end (sq_nil ?_)
   refine aw_cond (lr _) (fun c3 => ?_) (fun c3 => ?_)
   ·
    have c3' := c3
    try simp only [qq1, qq2, qq3, qq4, qq5, qq6, qq7, qq8, qq9, qq10, qq11, qq12, qq13] at c3'
    have hne : a[k] ≠ b[k] := fun h => by rw [h] at c3; simp at c3
    refine aw_seq (aw_region ?_)
    refine sq_ev rfl (ev_as (v := .raw _) (lr _)) ?_
    refine sq_nil (aw_ret ?_)
    exact retQ_pure (v := .raw _) rfl rfl (Less.eq (by rw [← ssp_okAll hlen, okAll_bad (i := k) (by omega) (by first | (simp [sspBad, *]; done) | (simp_all [sspBad]; done))]))
   ·
    have c3' := c3
    try simp only [qq1, qq2, qq3, qq4, qq5, qq6, qq7, qq8, qq9, qq10, qq11, qq12, qq13] at c3'
    have hey : a[k] = b[k] := by simp at c3; exact Prod.ext c3.1 c3.2
    refine aw_skip (aw_region ?_)
    refine sq_ev rfl (ev_mv (v := .raw _) (lr _)) ?_
    refine sq_ev rfl (ev_add (lr _) (lr _) (wr (by omega) (by omega))) ?_
    refine sq_ev rfl (ev_as (v := .raw _) (lr _)) ?_
    refine sq_nil ?_
    have hgood : sspBad a b hlen k (by omega) = false := by first | (simp [sspBad, *]; done) | (simp_all [sspBad]; done)
    exact ⟨⟨k + 1, by omega, fun i h hi => (by by_cases e : i = k; (subst e; exact hgood); exact hok i h (by omega))⟩, by simp only; omega, Sub.slots ⟨lr _, lr _, lr _, trivial⟩⟩
  ·
   have c2' := c2
   try simp only [qq1, qq2, qq3, qq4, qq5, qq6, qq7, qq8, qq9, qq10, qq11, qq12, qq13] at c2'
   refine aw_exit (aw_seq (aw_region ?_))
   refine sq_ev rfl (ev_as (v := .raw _) (lr _)) ?_
   refine sq_nil (aw_ret ?_)
   exact retQ_pure (v := .raw _) rfl rfl (Less.eq (by rw [← ssp_okAll hlen, okAll_end hk c2' hok]))

set_option maxHeartbeats 1000000 in
/-- kelir/kelirref03.SameWords -/
theorem rwords_pure (a b : List Int) (ha : a.length ≤ 100000000) (hb : b.length ≤ 100000000) : APure Tryz.prog 43 [ints a, ints b] (B (decide (a = b))) := by
 refine apure_of (rs := [.tmp 4]) Tryz.func43 rfl rfl (Nat.le_of_ble_eq_true rfl) (by simp [AV.pureL, AV.pureB, AV.pureE, pureE_map]) (rfl) fun e0 he0 => ?_
 refine aw_seq (aw_region ?_)
 refine sq_ev rfl (ev_as (v := .raw _) (lr _)) ?_
 refine sq_nil (aw_seq (aw_seq (aw_region ?_)))
 refine sq_ev rfl (ev_mv (v := .sl _ _) (lr _)) ?_
 refine sq_ev rfl (ev_len_map sl57 (lr _)) ?_
 refine sq_ev rfl (ev_mv (v := .sl _ _) (lr _)) ?_
 refine sq_ev rfl (ev_len_map sl57 (lr _)) ?_
 refine sq_ev rfl (ev_neq (lr _) (lr _)) ?_
 refine sq_nil ?_
 refine aw_cond (lr _) (fun c1 => ?_) (fun c1 => ?_)
 ·
  have c1' := c1
  try simp only [qq1, qq2, qq3, qq4, qq5, qq6, qq7, qq8, qq9, qq10, qq11, qq12, qq13] at c1'
  refine aw_seq (aw_region ?_)
  refine sq_ev rfl (ev_as (v := .raw _) (lr _)) ?_
  refine sq_nil (aw_ret ?_)
  exact retQ_pure (v := .raw _) rfl rfl (Less.eq (by rw [show decide (a = b) = false from (by simp only [decide_eq_false_iff_not]; rintro rfl; exact c1' rfl)]))
 ·
  have c1' := c1
  try simp only [qq1, qq2, qq3, qq4, qq5, qq6, qq7, qq8, qq9, qq10, qq11, qq12, qq13] at c1'
  have hlen : a.length = b.length := by omega
  refine aw_skip (aw_seq (aw_seq (aw_region ?_)))
  refine sq_ev rfl (ev_as (v := .raw _) (lr _)) ?_
  refine sq_nil (aw_block ?_)
  refine aw_loopk (ι := { k : Nat // k ≤ a.length ∧ ∀ i, (h : i < a.length) → i < k → sameBad a b hlen i h = false }) [0, 1] (fun i => [(5, I i.1)]) (fun H i => H) (fun i => a.length - i.1) (⟨0, Nat.zero_le _, by omega⟩) ⟨lr _, lr _, lr _, trivial⟩ rfl ?_
  rintro ⟨k, hk, hok⟩
  dsimp only [keepS, St.put, sget, slotsOf, List.map_cons, List.map_nil, List.cons_append, List.nil_append, List.length_cons, List.length_nil, Nat.reduceBEq, Nat.reduceAdd, cond_true, cond_false]
  refine aw_seq (aw_seq (aw_region ?_))
  refine sq_ev rfl (ev_mv (v := .raw _) (lr _)) ?_
  refine sq_ev rfl (ev_mv (v := .sl _ _) (lr _)) ?_
  refine sq_ev rfl (ev_len_map sl57 (lr _)) ?_
  refine sq_ev rfl (ev_lss (lr _) (lr _)) ?_
  refine sq_nil ?_
  refine aw_cond (lr _) (fun c2 => ?_) (fun c2 => ?_)
  ·
   have c2' := c2
   try simp only [qq1, qq2, qq3, qq4, qq5, qq6, qq7, qq8, qq9, qq10, qq11, qq12, qq13] at c2'
   refine aw_skip (aw_seq (aw_block (aw_seq ?_)))
   refine aw_draw 9 mo (by kernel_rfl) ?_
   refine dr_ev rfl (ev_mv (v := .sl _ _) (lr _)) ?_
   refine dr_ev rfl (ev_mv (v := .raw _) (lr _)) ?_
   refine dr_ev rfl (ev_index_map sl57 (lr _) (lr _) rfl (by omega)) ?_
   refine dr_ev rfl (ev_load_i (lr _) ty92 rfl) ?_
   refine dr_ev rfl (ev_mv (v := .sl _ _) (lr _)) ?_
   refine dr_ev rfl (ev_mv (v := .raw _) (lr _)) ?_
   refine dr_ev rfl (ev_index_map sl57 (lr _) (lr _) rfl (by omega)) ?_
   refine dr_ev rfl (ev_load_i (lr _) ty92 rfl) ?_
   refine dr_ev rfl (ev_neq (lr _) (lr _)) ?_
   refine dr_end (sq_nil ?_)
   refine aw_cond (lr _) (fun c3 => ?_) (fun c3 => ?_)
   ·
    have c3' := c3
    try simp only [qq1, qq2, qq3, qq4, qq5, qq6, qq7, qq8, qq9, qq10, qq11, qq12, qq13] at c3'
    refine aw_seq (aw_region ?_)
    refine sq_ev rfl (ev_as (v := .raw _) (lr _)) ?_
    refine sq_nil (aw_ret ?_)
    exact retQ_pure (v := .raw _) rfl rfl (Less.eq (by rw [← same_okAll hlen, okAll_bad (i := k) (by omega) (by first | (simp [sameBad, *]; done) | (simp_all [sameBad]; done))]))
   ·
    have c3' := c3
    try simp only [qq1, qq2, qq3, qq4, qq5, qq6, qq7, qq8, qq9, qq10, qq11, qq12, qq13] at c3'
    refine aw_skip (aw_region ?_)
    refine sq_ev rfl (ev_mv (v := .raw _) (lr _)) ?_
    refine sq_ev rfl (ev_add (lr _) (lr _) (wr (by omega) (by omega))) ?_
    refine sq_ev rfl (ev_as (v := .raw _) (lr _)) ?_
    refine sq_nil ?_
    have hgood : sameBad a b hlen k (by omega) = false := by first | (simp [sameBad, *]; done) | (simp_all [sameBad]; done)
    exact ⟨⟨k + 1, by omega, fun i h hi => (by by_cases e : i = k; (subst e; exact hgood); exact hok i h (by omega))⟩, by simp only; omega, Sub.slots ⟨lr _, lr _, lr _, trivial⟩⟩
  ·
   have c2' := c2
   try simp only [qq1, qq2, qq3, qq4, qq5, qq6, qq7, qq8, qq9, qq10, qq11, qq12, qq13] at c2'
   refine aw_exit (aw_seq (aw_region ?_))
   refine sq_ev rfl (ev_as (v := .raw _) (lr _)) ?_
   refine sq_nil (aw_ret ?_)
   exact retQ_pure (v := .raw _) rfl rfl (Less.eq (by rw [← same_okAll hlen, okAll_end hk c2' hok]))

set_option maxHeartbeats 400000 in
/-- kelir/kelirlaw03.short -/
theorem rshort_pure (p : Pl) : APure Tryz.prog 20 [plan p] (B (decide (p.scenes.length ≤ 12))) := by
 refine apure_of (rs := [.tmp 2]) Tryz.func20 rfl rfl (Nat.le_of_ble_eq_true rfl) (by simp [AV.pureL, AV.pureB, AV.pureE, pureE_map]) (rfl) fun e0 he0 => ?_
 refine aw_seq (aw_region ?_)
 refine sq_box rfl (lr _) rfl ?_
 refine sq_ev rfl (ev_as (v := .raw _) (lr _)) ?_
 refine sq_nil (aw_seq (aw_region ?_))
 refine sq_ev rfl (ev_fieldAddr fo27_3 (lr _)) ?_
 refine sq_ev rfl (ev_load (lr _) rfl ty25 rfl) ?_
 refine sq_ev rfl (ev_len_map sl25 (lr _)) ?_
 refine sq_ev rfl (ev_leq (lr _) (lr _)) ?_
 refine sq_ev rfl (ev_as (v := .raw _) (lr _)) ?_
 refine sq_nil (aw_ret ?_)
 exact retQ_pure (v := .raw _) rfl rfl (Less.eq (by simp; omega))


end Go.Proofs.YtjghdbdiejaacaaGreatDoor
