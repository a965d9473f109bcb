/-
  A part of the proof: conditions: none beyond each theorem's own.
-/
import Derived.Test.YtjghdbdiejaacaaGreatDoorOwnA
import Derived.Test.YtjghdbdiejaacaaGreatDoorLogicA
import Derived.Test.YtjghdbdiejaacaaGreatDoorLogicB
import Derived.Test.YtjghdbdiejaacaaGreatDoorLogicC
import Derived.Test.YtjghdbdiejaacaaGreatDoorLogicD
import Derived.Test.YtjghdbdiejaacaaGreatDoorSpecA
import Derived.Test.YtjghdbdiejaacaaGreatDoorShelf
import Derived.Test.YtjghdbdiejaacaaGreatDoorWalkA
import Derived.Test.YtjghdbdiejaacaaGreatDoorWalkB
import Derived.Test.YtjghdbdiejaacaaGreatDoorWalkC
import Derived.Test.YtjghdbdiejaacaaGreatDoorWalkD
import Derived.Test.YtjghdbdiejaacaaGreatDoorWalkE
import Derived.Test.YtjghdbdiejaacaaGreatDoorWalkF
import Derived.Test.YtjghdbdiejaacaaGreatDoorWalkG
import Derived.Test.YtjghdbdiejaacaaGreatDoorRow
set_option linter.all false
namespace Go.Proofs.YtjghdbdiejaacaaGreatDoor
open Go Go.Ab Ni
theorem alone_cho {p : Pl} {l : List Int} {a b c : Int} (ok : PlOK p = true) (h : hrIn p a b c = true) (hc : (Ris p l && isCh p l) = true) : chosenB (aloneP p a b c) l = true := by
  have e : chosenB (aloneP p a b c) l = (PlOK (aloneP p a b c) && Ris p l && isCh p l) := rfl
  rw [e, alone_ok ok h, Bool.and_assoc, hc]; rfl
theorem miss_of {p : Pl} {s : List Nat} (hs : s ∈ allC p) {h : List Int} (f : fitsP p s h = true) : missH p h = false := by
  unfold missH
  rw [Bool.not_eq_false', List.any_eq_true]
  exact ⟨s, hs, f⟩
theorem hours_val {p : Pl} {a b c : Int} {v : Bool} (h : hrIn p a b c = v) : APure Tryz.prog 80 [plan p, ints [a, b, c]] (B v) := by subst h; exact rhours_pure p a b c
theorem early_val {a b : List Int} {v : Bool} (ha : a.length = 3) (hb : b.length = 3) (h : lexB a b = v) : APure Tryz.prog 82 [ints a, ints b] (B v) := by subst h; exact rearlier_pure a b ha hb
theorem alone_val {p : Pl} {a b c : Int} (hs : p.scenes.length ≤ 12) (ok : PlOK p = true) (h : hrIn p a b c = true) {v : Bool} (hm : missH p [a, b, c] = !v) : APure Tryz.prog 38 [plan (aloneP p a b c)] (.tup [B v, B true]) :=
  poss_val (by rw [alone_len]; exact hs) (alone_ok ok h) (by rw [alone_poss ok h, hm, Bool.not_not])
theorem alone_canv {p : Pl} {l : List Nat} {a b c : Int} (hs : p.scenes.length ≤ 12) (hl : l.length ≤ 12) (ok : PlOK p = true) (cv : CV p l) (hc : (Ris p (up l) && isCh p (up l)) = true) (h : hrIn p a b c = true) {v : Bool} (hf : fitsP p l [a, b, c] = v) : APure Tryz.prog 55 [plan (aloneP p a b c), nats l] (.tup [B v, I 0]) := by
  have := cn_yes (p := aloneP p a b c) (by rw [alone_len]; exact hs) hl (alone_cho ok h hc)
  rwa [alone_can ok cv h, hf] at this
theorem sure_val {p : Pl} {l : List Nat} (hs : p.scenes.length ≤ 12) (hl : l.length ≤ 12) (ok : PlOK p = true) (hc : (Ris p (up l) && isCh p (up l)) = true) {v : Bool} (h : sureP p l = v) : APure Tryz.prog 64 [plan p, nats l] (.tup [B v, I 0]) := by
  have := sureAV_yes hs hl (by rw [chosenB, Bool.and_assoc, hc, ok]; rfl)
  rwa [h] at this
set_option maxHeartbeats 4000000 in
theorem law19_long (p : Pl) (l h : List Int) (hs : ¬ p.scenes.length ≤ 12) : APure Tryz.prog 19 [plan p, ints l, ints h] (B true) := by
  refine apure_of (rs := [.tmp 6]) Tryz.func19 rfl rfl (Nat.le_of_ble_eq_true rfl) (by simp [AV.pureL, AV.pureB, AV.pureE, pureE_map]) (rfl) fun e0 he0 => ?_
  refine aw_seq (aw_region ?_)
  refine sq_box rfl (lr _) rfl ?_
  refine asr (lr _) rfl ?_
  refine sq_nil (aw_seq (aw_seq (aw_region ?_)))
  refine sq_ev rfl (ev_load_agg (lr _) rfl ty27 rfl) ?_
  refine sq_ev rfl (ev_call en20 (lr _) (short_no hs) ⟨lr _, trivial⟩) ?_
  refine sq_ev rfl (ev_not (lr _)) ?_
  refine mvr (lr _) rfl ?_
  refine sq_no rfl rfl (lr _) rfl rfl ?_
  refine sq_no rfl rfl (lr _) rfl rfl ?_
  refine sq_no rfl rfl (lr _) rfl rfl ?_
  refine sq_ev rfl (ev_pickT (v := .raw _) (lr _) (lr _)) ?_
  refine mvr (lr _) rfl ?_
  refine sq_no rfl rfl (lr _) rfl rfl ?_
  refine sq_no rfl rfl (lr _) rfl rfl ?_
  refine sq_no rfl rfl (lr _) rfl rfl ?_
  refine sq_ev rfl (ev_pickT (v := .raw _) (lr _) (lr _)) ?_
  refine mvr (lr _) rfl ?_
  refine sq_no rfl rfl (lr _) rfl rfl ?_
  refine sq_no rfl rfl (lr _) rfl rfl ?_
  refine sq_no rfl rfl (lr _) rfl rfl ?_
  refine sq_no rfl rfl (lr _) rfl rfl ?_
  refine sq_ev rfl (ev_pickT (v := .raw _) (lr _) (lr _)) ?_
  refine mvr (lr _) rfl ?_
  refine sq_no rfl rfl (lr _) rfl rfl ?_
  refine sq_no rfl rfl (lr _) rfl rfl ?_
  refine sq_no rfl rfl (lr _) rfl rfl ?_
  refine sq_ev rfl (ev_pickT (v := .raw _) (lr _) (lr _)) ?_
  refine mvr (lr _) rfl ?_
  refine sq_no rfl rfl (lr _) rfl rfl ?_
  refine sq_no rfl rfl (lr _) rfl rfl ?_
  refine sq_no rfl rfl (lr _) rfl rfl ?_
  refine sq_no rfl rfl (lr _) rfl rfl ?_
  refine sq_ev rfl (ev_pickT (v := .raw _) (lr _) (lr _)) ?_
  refine sq_nil ?_
  refine aw_true (lr _) ?_
  refine aw_seq (aw_region ?_)
  refine sq_ev rfl (ev_call en21 (lr _) (known_pure) trivial) ?_
  refine asr (lr _) rfl ?_
  refine sq_nil (aw_ret ?_)
  exact retQ_pure (v := .raw _) rfl rfl (lr _)
set_option maxHeartbeats 4000000 in
theorem law19_slim (p : Pl) (l h : List Int) (hs : p.scenes.length ≤ 12) (hl : ¬ l.length ≤ 12) : APure Tryz.prog 19 [plan p, ints l, ints h] (B true) := by
 refine apure_of (rs := [.tmp 6]) Tryz.func19 rfl rfl (Nat.le_of_ble_eq_true rfl) (by simp [AV.pureL, AV.pureB, AV.pureE, pureE_map]) (rfl) fun e0 he0 => ?_
 refine aw_seq (aw_region ?_)
 refine sq_box rfl (lr _) rfl ?_
 refine asr (lr _) rfl ?_
 refine sq_nil (aw_seq (aw_seq (aw_region ?_)))
 refine sq_ev rfl (ev_load_agg (lr _) rfl ty27 rfl) ?_
 refine sq_ev rfl (ev_call en20 (lr _) (short_yes hs) ⟨lr _, trivial⟩) ?_
 refine sq_ev rfl (ev_not (lr _)) ?_
 refine mvr (lr _) rfl ?_
 refine ysl rfl rfl (lr _) rfl (lr _) ?_
 refine sq_yes rfl rfl (lr _) rfl (ev_call en45 (lr _) (slim_no hl) ⟨lr _, trivial⟩) ?_
 refine sq_yes rfl rfl (lr _) rfl (ev_not (lr _)) ?_
 refine pf rfl (lr _) (lr _) ?_
 refine mvr (lr _) rfl ?_
 refine sq_no rfl rfl (lr _) rfl rfl ?_
 refine sq_no rfl rfl (lr _) rfl rfl ?_
 refine sq_no rfl rfl (lr _) rfl rfl ?_
 refine sq_ev rfl (ev_pickT (v := .raw _) (lr _) (lr _)) ?_
 refine mvr (lr _) rfl ?_
 refine sq_no rfl rfl (lr _) rfl rfl ?_
 refine sq_no rfl rfl (lr _) rfl rfl ?_
 refine sq_no rfl rfl (lr _) rfl rfl ?_
 refine sq_no rfl rfl (lr _) rfl rfl ?_
 refine sq_ev rfl (ev_pickT (v := .raw _) (lr _) (lr _)) ?_
 refine mvr (lr _) rfl ?_
 refine sq_no rfl rfl (lr _) rfl rfl ?_
 refine sq_no rfl rfl (lr _) rfl rfl ?_
 refine sq_no rfl rfl (lr _) rfl rfl ?_
 refine sq_ev rfl (ev_pickT (v := .raw _) (lr _) (lr _)) ?_
 refine mvr (lr _) rfl ?_
 refine sq_no rfl rfl (lr _) rfl rfl ?_
 refine sq_no rfl rfl (lr _) rfl rfl ?_
 refine sq_no rfl rfl (lr _) rfl rfl ?_
 refine sq_no rfl rfl (lr _) rfl rfl ?_
 refine sq_ev rfl (ev_pickT (v := .raw _) (lr _) (lr _)) ?_
 refine sq_nil ?_
 refine aw_true (lr _) ?_
 refine aw_seq (aw_region ?_)
 refine sq_ev rfl (ev_call en21 (lr _) (known_pure) trivial) ?_
 refine asr (lr _) rfl ?_
 refine sq_nil (aw_ret ?_)
 exact retQ_pure (v := .raw _) rfl rfl (lr _)
set_option maxHeartbeats 4000000 in
theorem law19_bad (p : Pl) (l h : List Int) (hs : p.scenes.length ≤ 12) (hl : l.length ≤ 12) (hk : PlOK p = false) : APure Tryz.prog 19 [plan p, ints l, ints h] (B true) := by
 refine apure_of (rs := [.tmp 6]) Tryz.func19 rfl rfl (Nat.le_of_ble_eq_true rfl) (by simp [AV.pureL, AV.pureB, AV.pureE, pureE_map]) (rfl) fun e0 he0 => ?_
 refine aw_seq (aw_region ?_)
 refine sq_box rfl (lr _) rfl ?_
 refine asr (lr _) rfl ?_
 refine sq_nil (aw_seq (aw_seq (aw_region ?_)))
 refine sq_ev rfl (ev_load_agg (lr _) rfl ty27 rfl) ?_
 refine sq_ev rfl (ev_call en20 (lr _) (short_yes hs) ⟨lr _, trivial⟩) ?_
 refine sq_ev rfl (ev_not (lr _)) ?_
 refine mvr (lr _) rfl ?_
 refine ysl rfl rfl (lr _) rfl (lr _) ?_
 refine sq_yes rfl rfl (lr _) rfl (ev_call en45 (lr _) (slim_yes hl) ⟨lr _, trivial⟩) ?_
 refine sq_yes rfl rfl (lr _) rfl (ev_not (lr _)) ?_
 refine pf rfl (lr _) (lr _) ?_
 refine mvr (lr _) rfl ?_
 refine sq_yes rfl rfl (lr _) rfl (ev_load_agg (lr _) rfl ty27 rfl) ?_
 refine sq_yes rfl rfl (lr _) rfl (ev_call en24 (lr _) (plan_no hs hk) ⟨lr _, trivial⟩) ?_
 refine sq_yes rfl rfl (lr _) rfl (ev_not (lr _)) ?_
 refine pf rfl (lr _) (lr _) ?_
 refine mvr (lr _) rfl ?_
 refine sq_no rfl rfl (lr _) rfl rfl ?_
 refine sq_no rfl rfl (lr _) rfl rfl ?_
 refine sq_no rfl rfl (lr _) rfl rfl ?_
 refine sq_no rfl rfl (lr _) rfl rfl ?_
 refine sq_ev rfl (ev_pickT (v := .raw _) (lr _) (lr _)) ?_
 refine mvr (lr _) rfl ?_
 refine sq_no rfl rfl (lr _) rfl rfl ?_
 refine sq_no rfl rfl (lr _) rfl rfl ?_
 refine sq_no rfl rfl (lr _) rfl rfl ?_
 refine sq_ev rfl (ev_pickT (v := .raw _) (lr _) (lr _)) ?_
 refine mvr (lr _) rfl ?_
 refine sq_no rfl rfl (lr _) rfl rfl ?_
 refine sq_no rfl rfl (lr _) rfl rfl ?_
 refine sq_no rfl rfl (lr _) rfl rfl ?_
 refine sq_no rfl rfl (lr _) rfl rfl ?_
 refine sq_ev rfl (ev_pickT (v := .raw _) (lr _) (lr _)) ?_
 refine sq_nil ?_
 refine aw_true (lr _) ?_
 refine aw_seq (aw_region ?_)
 refine sq_ev rfl (ev_call en21 (lr _) (known_pure) trivial) ?_
 refine asr (lr _) rfl ?_
 refine sq_nil (aw_ret ?_)
 exact retQ_pure (v := .raw _) rfl rfl (lr _)
set_option maxHeartbeats 4000000 in
theorem law19_cho (p : Pl) (l h : List Int) (hs : p.scenes.length ≤ 12) (hl : l.length ≤ 12) (hk : PlOK p = true) (hc : (Ris p l && isCh p l) = false) : APure Tryz.prog 19 [plan p, ints l, ints h] (B true) := by
 refine apure_of (rs := [.tmp 6]) Tryz.func19 rfl rfl (Nat.le_of_ble_eq_true rfl) (by simp [AV.pureL, AV.pureB, AV.pureE, pureE_map]) (rfl) fun e0 he0 => ?_
 refine aw_seq (aw_region ?_)
 refine sq_box rfl (lr _) rfl ?_
 refine asr (lr _) rfl ?_
 refine sq_nil (aw_seq (aw_seq (aw_region ?_)))
 refine sq_ev rfl (ev_load_agg (lr _) rfl ty27 rfl) ?_
 refine sq_ev rfl (ev_call en20 (lr _) (short_yes hs) ⟨lr _, trivial⟩) ?_
 refine sq_ev rfl (ev_not (lr _)) ?_
 refine mvr (lr _) rfl ?_
 refine ysl rfl rfl (lr _) rfl (lr _) ?_
 refine sq_yes rfl rfl (lr _) rfl (ev_call en45 (lr _) (slim_yes hl) ⟨lr _, trivial⟩) ?_
 refine sq_yes rfl rfl (lr _) rfl (ev_not (lr _)) ?_
 refine pf rfl (lr _) (lr _) ?_
 refine mvr (lr _) rfl ?_
 refine sq_yes rfl rfl (lr _) rfl (ev_load_agg (lr _) rfl ty27 rfl) ?_
 refine sq_yes rfl rfl (lr _) rfl (ev_call en24 (lr _) (plan_yes hs hk) ⟨lr _, trivial⟩) ?_
 refine sq_yes rfl rfl (lr _) rfl (ev_not (lr _)) ?_
 refine pf rfl (lr _) (lr _) ?_
 refine mvr (lr _) rfl ?_
 refine sq_yes rfl rfl (lr _) rfl (ev_load_agg (lr _) rfl ty27 rfl) ?_
 refine ysl rfl rfl (lr _) rfl (lr _) ?_
 refine sq_yes rfl rfl (lr _) rfl (ev_call en47 (lr _) (cho_no hs hl hc) ⟨lr _, lr _, trivial⟩) ?_
 refine sq_yes rfl rfl (lr _) rfl (ev_not (lr _)) ?_
 refine pf rfl (lr _) (lr _) ?_
 refine mvr (lr _) rfl ?_
 refine sq_no rfl rfl (lr _) rfl rfl ?_
 refine sq_no rfl rfl (lr _) rfl rfl ?_
 refine sq_no rfl rfl (lr _) rfl rfl ?_
 refine sq_ev rfl (ev_pickT (v := .raw _) (lr _) (lr _)) ?_
 refine mvr (lr _) rfl ?_
 refine sq_no rfl rfl (lr _) rfl rfl ?_
 refine sq_no rfl rfl (lr _) rfl rfl ?_
 refine sq_no rfl rfl (lr _) rfl rfl ?_
 refine sq_no rfl rfl (lr _) rfl rfl ?_
 refine sq_ev rfl (ev_pickT (v := .raw _) (lr _) (lr _)) ?_
 refine sq_nil ?_
 refine aw_true (lr _) ?_
 refine aw_seq (aw_region ?_)
 refine sq_ev rfl (ev_call en21 (lr _) (known_pure) trivial) ?_
 refine asr (lr _) rfl ?_
 refine sq_nil (aw_ret ?_)
 exact retQ_pure (v := .raw _) rfl rfl (lr _)
set_option maxHeartbeats 4000000 in
theorem law19_len (p : Pl) (l : List Nat) (h : List Int) (hs : p.scenes.length ≤ 12) (hl : l.length ≤ 12) (hk : PlOK p = true) (hc : (Ris p (up l) && isCh p (up l)) = true) (hh : ¬ h.length = 3) : APure Tryz.prog 19 [plan p, nats l, ints h] (B true) := by
 refine apure_of (rs := [.tmp 6]) Tryz.func19 rfl rfl (Nat.le_of_ble_eq_true rfl) (by simp [AV.pureL, AV.pureB, AV.pureE, pureE_map]) (rfl) fun e0 he0 => ?_
 refine aw_seq (aw_region ?_)
 refine sq_box rfl (lr _) rfl ?_
 refine asr (lr _) rfl ?_
 refine sq_nil (aw_seq (aw_seq (aw_region ?_)))
 refine sq_ev rfl (ev_load_agg (lr _) rfl ty27 rfl) ?_
 refine sq_ev rfl (ev_call en20 (lr _) (short_yes hs) ⟨lr _, trivial⟩) ?_
 refine sq_ev rfl (ev_not (lr _)) ?_
 refine mvr (lr _) rfl ?_
 refine ysl rfl rfl (lr _) rfl (lr _) ?_
 refine sq_yes rfl rfl (lr _) rfl (ev_call en45 (lr _) (slim_yesN hl) ⟨lr _, trivial⟩) ?_
 refine sq_yes rfl rfl (lr _) rfl (ev_not (lr _)) ?_
 refine pf rfl (lr _) (lr _) ?_
 refine mvr (lr _) rfl ?_
 refine sq_yes rfl rfl (lr _) rfl (ev_load_agg (lr _) rfl ty27 rfl) ?_
 refine sq_yes rfl rfl (lr _) rfl (ev_call en24 (lr _) (plan_yes hs hk) ⟨lr _, trivial⟩) ?_
 refine sq_yes rfl rfl (lr _) rfl (ev_not (lr _)) ?_
 refine pf rfl (lr _) (lr _) ?_
 refine mvr (lr _) rfl ?_
 refine sq_yes rfl rfl (lr _) rfl (ev_load_agg (lr _) rfl ty27 rfl) ?_
 refine ysl rfl rfl (lr _) rfl (lr _) ?_
 refine sq_yes rfl rfl (lr _) rfl (ev_call en47 (lr _) (cho_yesN hs hl hc) ⟨lr _, lr _, trivial⟩) ?_
 refine sq_yes rfl rfl (lr _) rfl (ev_not (lr _)) ?_
 refine pf rfl (lr _) (lr _) ?_
 refine mvr (lr _) rfl ?_
 refine ysl rfl rfl (lr _) rfl (lr _) ?_
 refine sq_yes rfl rfl (lr _) rfl (ev_len_map sl34 (lr _)) ?_
 refine sq_yes rfl rfl (lr _) rfl (ev_neq (lr _) (lr _)) ?_
 refine pf rfl (lr _) (lr _) ?_
 refine mvr (lr _) rfl ?_
 refine sq_split 44 (lr _) (fun g5 => ?_) (fun g5 => ?_)
 ·
  have g5' := g5
  try simp only [qq] at g5'
  refine sq_no rfl rfl (less_b g5) rfl rfl ?_
  refine sq_no rfl rfl (less_b g5) rfl rfl ?_
  refine sq_no rfl rfl (less_b g5) rfl rfl ?_
  refine sq_no rfl rfl (less_b g5) rfl rfl ?_
  refine sq_ev rfl (ev_pickT (v := .raw _) (less_b g5) (lr _)) ?_
  refine sq_nil ?_
  refine aw_true (lr _) ?_
  refine aw_seq (aw_region ?_)
  refine sq_ev rfl (ev_call en21 (lr _) (known_pure) trivial) ?_
  refine asr (lr _) rfl ?_
  refine sq_nil (aw_ret ?_)
  exact retQ_pure (v := .raw _) rfl rfl (lr _)
 ·
  have g5' := g5
  try simp only [qq] at g5'
  exfalso; simp at g5; omega
set_option maxHeartbeats 4000000 in
theorem law19_hrs (p : Pl) (l : List Nat) (a b c : Int) (hs : p.scenes.length ≤ 12) (hl : l.length ≤ 12) (hk : PlOK p = true) (hc : (Ris p (up l) && isCh p (up l)) = true) (hr : hrIn p a b c = false) : APure Tryz.prog 19 [plan p, nats l, ints [a, b, c]] (B true) := by
 refine apure_of (rs := [.tmp 6]) Tryz.func19 rfl rfl (Nat.le_of_ble_eq_true rfl) (by simp [AV.pureL, AV.pureB, AV.pureE, pureE_map]) (rfl) fun e0 he0 => ?_
 refine aw_seq (aw_region ?_)
 refine sq_box rfl (lr _) rfl ?_
 refine asr (lr _) rfl ?_
 refine sq_nil (aw_seq (aw_seq (aw_region ?_)))
 refine sq_ev rfl (ev_load_agg (lr _) rfl ty27 rfl) ?_
 refine sq_ev rfl (ev_call en20 (lr _) (short_yes hs) ⟨lr _, trivial⟩) ?_
 refine sq_ev rfl (ev_not (lr _)) ?_
 refine mvr (lr _) rfl ?_
 refine ysl rfl rfl (lr _) rfl (lr _) ?_
 refine sq_yes rfl rfl (lr _) rfl (ev_call en45 (lr _) (slim_yesN hl) ⟨lr _, trivial⟩) ?_
 refine sq_yes rfl rfl (lr _) rfl (ev_not (lr _)) ?_
 refine pf rfl (lr _) (lr _) ?_
 refine mvr (lr _) rfl ?_
 refine sq_yes rfl rfl (lr _) rfl (ev_load_agg (lr _) rfl ty27 rfl) ?_
 refine sq_yes rfl rfl (lr _) rfl (ev_call en24 (lr _) (plan_yes hs hk) ⟨lr _, trivial⟩) ?_
 refine sq_yes rfl rfl (lr _) rfl (ev_not (lr _)) ?_
 refine pf rfl (lr _) (lr _) ?_
 refine mvr (lr _) rfl ?_
 refine sq_yes rfl rfl (lr _) rfl (ev_load_agg (lr _) rfl ty27 rfl) ?_
 refine ysl rfl rfl (lr _) rfl (lr _) ?_
 refine sq_yes rfl rfl (lr _) rfl (ev_call en47 (lr _) (cho_yesN hs hl hc) ⟨lr _, lr _, trivial⟩) ?_
 refine sq_yes rfl rfl (lr _) rfl (ev_not (lr _)) ?_
 refine pf rfl (lr _) (lr _) ?_
 refine mvr (lr _) rfl ?_
 refine ysl rfl rfl (lr _) rfl (lr _) ?_
 refine sq_yes rfl rfl (lr _) rfl (ev_len_map sl34 (lr _)) ?_
 refine sq_yes rfl rfl (lr _) rfl (ev_neq (lr _) (lr _)) ?_
 refine pf rfl (lr _) (lr _) ?_
 refine mvr (lr _) rfl ?_
 refine sq_yes rfl rfl (lr _) rfl (ev_load_agg (lr _) rfl ty27 rfl) ?_
 refine ysl rfl rfl (lr _) rfl (lr _) ?_
 refine sq_yes rfl rfl (lr _) rfl (ev_call en80 (lr _) (hours_val hr) ⟨lr _, lr _, trivial⟩) ?_
 refine sq_yes rfl rfl (lr _) rfl (ev_not (lr _)) ?_
 refine pf rfl (lr _) (lr _) ?_
 refine sq_nil ?_
 refine aw_true (lr _) ?_
 refine aw_seq (aw_region ?_)
 refine sq_ev rfl (ev_call en21 (lr _) (known_pure) trivial) ?_
 refine asr (lr _) rfl ?_
 refine sq_nil (aw_ret ?_)
 exact retQ_pure (v := .raw _) rfl rfl (lr _)
set_option maxHeartbeats 8000000 in
set_option maxRecDepth 10000 in
theorem law19_yTT (p : Pl) (l : List Nat) (a b c : Int) (hs : p.scenes.length ≤ 12) (hl : l.length ≤ 12) (hk : PlOK p = true) (hc : (Ris p (up l) && isCh p (up l)) = true) (gp : GP p) (wp : WP p) (cv : CV p l) (hr : hrIn p a b c = true) (hsu : sureP p l = true) (hfi : fitsP p l [a, b, c] = true) (hmi : missH p [a, b, c] = false) (s : List Nat) (ha : surest p = some s) (hss : sureP p s = true) (hsl : s.length ≤ 12) (hsc : (Ris p (up s) && isCh p (up s)) = true) (hso : soonB (up l) (up s) = false) (hm : missed p = none) : APure Tryz.prog 19 [plan p, nats l, ints [a, b, c]] (B true) := by
 refine apure_of (rs := [.tmp 6]) Tryz.func19 rfl rfl (Nat.le_of_ble_eq_true rfl) (by simp [AV.pureL, AV.pureB, AV.pureE, pureE_map]) (rfl) fun e0 he0 => ?_
 refine aw_seq (aw_region ?_)
 refine sq_box rfl (lr _) rfl ?_
 refine asr (lr _) rfl ?_
 refine sq_nil (aw_seq (aw_seq (aw_region ?_)))
 refine sq_ev rfl (ev_load_agg (lr _) rfl ty27 rfl) ?_
 refine sq_ev rfl (ev_call en20 (lr _) (short_yes hs) ⟨lr _, trivial⟩) ?_
 refine sq_ev rfl (ev_not (lr _)) ?_
 refine mvr (lr _) rfl ?_
 refine ysl rfl rfl (lr _) rfl (lr _) ?_
 refine sq_yes rfl rfl (lr _) rfl (ev_call en45 (lr _) (slim_yesN hl) ⟨lr _, trivial⟩) ?_
 refine sq_yes rfl rfl (lr _) rfl (ev_not (lr _)) ?_
 refine pf rfl (lr _) (lr _) ?_
 refine mvr (lr _) rfl ?_
 refine sq_yes rfl rfl (lr _) rfl (ev_load_agg (lr _) rfl ty27 rfl) ?_
 refine sq_yes rfl rfl (lr _) rfl (ev_call en24 (lr _) (plan_yes hs hk) ⟨lr _, trivial⟩) ?_
 refine sq_yes rfl rfl (lr _) rfl (ev_not (lr _)) ?_
 refine pf rfl (lr _) (lr _) ?_
 refine mvr (lr _) rfl ?_
 refine sq_yes rfl rfl (lr _) rfl (ev_load_agg (lr _) rfl ty27 rfl) ?_
 refine ysl rfl rfl (lr _) rfl (lr _) ?_
 refine sq_yes rfl rfl (lr _) rfl (ev_call en47 (lr _) (cho_yesN hs hl hc) ⟨lr _, lr _, trivial⟩) ?_
 refine sq_yes rfl rfl (lr _) rfl (ev_not (lr _)) ?_
 refine pf rfl (lr _) (lr _) ?_
 refine mvr (lr _) rfl ?_
 refine ysl rfl rfl (lr _) rfl (lr _) ?_
 refine sq_yes rfl rfl (lr _) rfl (ev_len_map sl34 (lr _)) ?_
 refine sq_yes rfl rfl (lr _) rfl (ev_neq (lr _) (lr _)) ?_
 refine pf rfl (lr _) (lr _) ?_
 refine mvr (lr _) rfl ?_
 refine sq_yes rfl rfl (lr _) rfl (ev_load_agg (lr _) rfl ty27 rfl) ?_
 refine ysl rfl rfl (lr _) rfl (lr _) ?_
 refine sq_yes rfl rfl (lr _) rfl (ev_call en80 (lr _) (hours_val hr) ⟨lr _, lr _, trivial⟩) ?_
 refine sq_yes rfl rfl (lr _) rfl (ev_not (lr _)) ?_
 refine pf rfl (lr _) (lr _) ?_
 refine sq_nil ?_
 refine aw_false (lr _) ?_
 refine aw_skip (aw_seq (aw_region ?_))
 refine sq_ev rfl (ev_load_agg (lr _) rfl ty27 rfl) ?_
 refine mvs rfl (lr _) ?_
 refine sq_ev rfl (ev_call en64 (lr _) (sure_val hs hl hk hc hsu) ⟨lr _, lr _, trivial⟩) ?_
 refine sq_ev rfl (ev_mv (v := .tup _) (lr _)) ?_
 refine xtr rfl (lr _) rfl ?_
 refine xtr rfl (lr _) rfl ?_
 refine asr (lr _) rfl ?_
 refine asr (lr _) rfl ?_
 refine sq_nil (aw_seq (aw_region ?_))
 refine sq_ev rfl (ev_load_agg (lr _) rfl ty27 rfl) ?_
 refine sq_ev rfl (ev_call en65 (lr _) (su_yes hs hk ha) ⟨lr _, trivial⟩) ?_
 refine sq_ev rfl (ev_mv (v := .tup _) (lr _)) ?_
 refine xtr rfl (lr _) rfl ?_
 refine xtr rfl (lr _) rfl ?_
 refine ass rfl (lr _) ?_
 refine asr (lr _) rfl ?_
 refine sq_nil (aw_seq (aw_region ?_))
 refine sq_ev rfl (ev_load_agg (lr _) rfl ty27 rfl) ?_
 refine sq_ev rfl (ev_call en66 (lr _) (mi_no hs hk hm) ⟨lr _, trivial⟩) ?_
 refine sq_ev rfl (ev_mv (v := .tup _) (lr _)) ?_
 refine xtr rfl (lr _) rfl ?_
 refine xtr rfl (lr _) rfl ?_
 refine ass rfl (lr _) ?_
 refine asr (lr _) rfl ?_
 refine sq_nil (aw_seq (aw_region ?_))
 refine sq_ev rfl (ev_load_agg (lr _) rfl ty27 rfl) ?_
 refine mvs rfl (lr _) ?_
 refine sq_ev rfl (ev_call en81 (lr _) (ralone_pure p a b c) ⟨lr _, lr _, trivial⟩) ?_
 refine mvs rfl (lr _) ?_
 refine sq_ev rfl (ev_call en55 (lr _) (alone_canv hs hl hk cv hc hr hfi) ⟨lr _, lr _, trivial⟩) ?_
 refine sq_ev rfl (ev_mv (v := .tup _) (lr _)) ?_
 refine xtr rfl (lr _) rfl ?_
 refine xtr rfl (lr _) rfl ?_
 refine asr (lr _) rfl ?_
 refine asr (lr _) rfl ?_
 refine sq_nil (aw_seq (aw_region ?_))
 refine sq_ev rfl (ev_load_agg (lr _) rfl ty27 rfl) ?_
 refine mvs rfl (lr _) ?_
 refine sq_ev rfl (ev_call en81 (lr _) (ralone_pure p a b c) ⟨lr _, lr _, trivial⟩) ?_
 refine sq_ev rfl (ev_call en38 (lr _) (alone_val (v := true) hs hk hr hmi) ⟨lr _, trivial⟩) ?_
 refine sq_ev rfl (ev_mv (v := .tup _) (lr _)) ?_
 refine xtr rfl (lr _) rfl ?_
 refine xtr rfl (lr _) rfl ?_
 refine asr (lr _) rfl ?_
 refine asr (lr _) rfl ?_
 refine sq_nil (aw_seq (aw_seq (aw_region ?_)))
 refine mvr (lr _) rfl ?_
 refine sq_ev rfl (ev_neq (lr _) (lr _)) ?_
 refine mvr (lr _) rfl ?_
 refine ymr rfl rfl (lr _) rfl (lr _) ?_
 refine sq_yes rfl rfl (lr _) rfl (ev_neq (lr _) (lr _)) ?_
 refine ymr rfl rfl (lr _) rfl (lr _) ?_
 refine sq_no rfl rfl (lr _) rfl rfl ?_
 refine sq_no rfl rfl (lr _) rfl rfl ?_
 refine sq_yes rfl rfl (lr _) rfl (ev_pickF (v := .raw _) (lr _) (lr _)) ?_
 refine pf rfl (lr _) (lr _) ?_
 refine mvr (lr _) rfl ?_
 refine ymr rfl rfl (lr _) rfl (lr _) ?_
 refine sq_yes rfl rfl (lr _) rfl (ev_neq (lr _) (lr _)) ?_
 refine ymr rfl rfl (lr _) rfl (lr _) ?_
 refine ymr rfl rfl (lr _) rfl (lr _) ?_
 refine sq_yes rfl rfl (lr _) rfl (ev_neq (lr _) (lr _)) ?_
 refine sq_yes rfl rfl (lr _) rfl (ev_pickT (v := .raw _) (lr _) (lr _)) ?_
 refine pf rfl (lr _) (lr _) ?_
 refine mvr (lr _) rfl ?_
 refine ymr rfl rfl (lr _) rfl (lr _) ?_
 refine sq_yes rfl rfl (lr _) rfl (ev_neq (lr _) (lr _)) ?_
 refine pf rfl (lr _) (lr _) ?_
 refine mvr (lr _) rfl ?_
 refine ymr rfl rfl (lr _) rfl (lr _) ?_
 refine sq_yes rfl rfl (lr _) rfl (ev_not (lr _)) ?_
 refine pf rfl (lr _) (lr _) ?_
 refine mvr (lr _) rfl ?_
 refine ymr rfl rfl (lr _) rfl (lr _) ?_
 refine ymr rfl rfl (lr _) rfl (lr _) ?_
 refine ymr rfl rfl (lr _) rfl (lr _) ?_
 refine sq_yes rfl rfl (lr _) rfl (ev_not (lr _)) ?_
 refine sq_yes rfl rfl (lr _) rfl (ev_pickT (v := .raw _) (lr _) (lr _)) ?_
 refine pf rfl (lr _) (lr _) ?_
 refine mvr (lr _) rfl ?_
 refine ymr rfl rfl (lr _) rfl (lr _) ?_
 refine ymr rfl rfl (lr _) rfl (lr _) ?_
 refine ymr rfl rfl (lr _) rfl (lr _) ?_
 refine sq_yes rfl rfl (lr _) rfl (ev_not (lr _)) ?_
 refine sq_yes rfl rfl (lr _) rfl (ev_pickT (v := .raw _) (lr _) (lr _)) ?_
 refine pf rfl (lr _) (lr _) ?_
 refine mvr (lr _) rfl ?_
 refine ymr rfl rfl (lr _) rfl (lr _) ?_
 refine ymr rfl rfl (lr _) rfl (lr _) ?_
 refine ymr rfl rfl (lr _) rfl (lr _) ?_
 refine sq_yes rfl rfl (lr _) rfl (ev_neq (lr _) (lr _)) ?_
 refine sq_yes rfl rfl (lr _) rfl (ev_pickT (v := .raw _) (lr _) (lr _)) ?_
 refine pf rfl (lr _) (lr _) ?_
 refine mvr (lr _) rfl ?_
 refine ymr rfl rfl (lr _) rfl (lr _) ?_
 refine sq_yes rfl rfl (lr _) rfl (ev_eql (lr _) (lr _)) ?_
 refine ymr rfl rfl (lr _) rfl (lr _) ?_
 refine ymr rfl rfl (lr _) rfl (lr _) ?_
 refine sq_yes rfl rfl (lr _) rfl (ev_neq (lr _) (lr _)) ?_
 refine sq_yes rfl rfl (lr _) rfl (ev_pickT (v := .raw _) (lr _) (lr _)) ?_
 refine pf rfl (lr _) (lr _) ?_
 refine mvr (lr _) rfl ?_
 refine ymr rfl rfl (lr _) rfl (lr _) ?_
 refine sq_yes rfl rfl (lr _) rfl (ev_eql (lr _) (lr _)) ?_
 refine ymr rfl rfl (lr _) rfl (lr _) ?_
 refine ymr rfl rfl (lr _) rfl (lr _) ?_
 refine sq_yes rfl rfl (lr _) rfl (ev_not (lr _)) ?_
 refine sq_yes rfl rfl (lr _) rfl (ev_pickT (v := .raw _) (lr _) (lr _)) ?_
 refine pf rfl (lr _) (lr _) ?_
 refine sq_nil ?_
 refine aw_false (lr _) ?_
 refine aw_skip (aw_seq (aw_seq (aw_region ?_)))
 refine mvr (lr _) rfl ?_
 refine sq_ev rfl (ev_eql (lr _) (lr _)) ?_
 refine sq_nil ?_
 refine aw_true (lr _) ?_
 refine aw_seq (aw_region ?_)
 refine sq_ev rfl (ev_load_agg (lr _) rfl ty27 rfl) ?_
 refine mvs rfl (lr _) ?_
 refine sq_ev rfl (ev_call en64 (lr _) (sure_val hs hsl hk hsc hss) ⟨lr _, lr _, trivial⟩) ?_
 refine sq_ev rfl (ev_mv (v := .tup _) (lr _)) ?_
 refine xtr rfl (lr _) rfl ?_
 refine xtr rfl (lr _) rfl ?_
 refine asr (lr _) rfl ?_
 refine asr (lr _) rfl ?_
 refine sq_nil (aw_seq (aw_region ?_))
 refine sq_ev rfl (ev_load_agg (lr _) rfl ty27 rfl) ?_
 refine mvs rfl (lr _) ?_
 refine sq_ev rfl (ev_call en47 (lr _) (cho_yesN hs hsl hsc) ⟨lr _, lr _, trivial⟩) ?_
 refine sq_ev rfl (ev_not (lr _)) ?_
 refine mvr (lr _) rfl ?_
 refine ymr rfl rfl (lr _) rfl (lr _) ?_
 refine sq_yes rfl rfl (lr _) rfl (ev_neq (lr _) (lr _)) ?_
 refine pf rfl (lr _) (lr _) ?_
 refine mvr (lr _) rfl ?_
 refine ymr rfl rfl (lr _) rfl (lr _) ?_
 refine sq_yes rfl rfl (lr _) rfl (ev_not (lr _)) ?_
 refine pf rfl (lr _) (lr _) ?_
 refine mvr (lr _) rfl ?_
 refine ymr rfl rfl (lr _) rfl (lr _) ?_
 refine ymr rfl rfl (lr _) rfl (lr _) ?_
 refine ysl rfl rfl (lr _) rfl (lr _) ?_
 refine ysl rfl rfl (lr _) rfl (lr _) ?_
 refine sq_yes rfl rfl (lr _) rfl (ev_call en63 (lr _) (soon_val (by omega) (by omega) hso) ⟨lr _, lr _, trivial⟩) ?_
 refine sq_yes rfl rfl (lr _) rfl (ev_pickT (v := .raw _) (lr _) (lr _)) ?_
 refine pf rfl (lr _) (lr _) ?_
 refine sq_nil ?_
 refine aw_false (lr _) ?_
 refine aw_skip (aw_seq (aw_seq (aw_region ?_)))
 refine mvr (lr _) rfl ?_
 refine sq_ev rfl (ev_neq (lr _) (lr _)) ?_
 refine sq_nil ?_
 refine aw_true (lr _) ?_
 refine aw_seq (aw_region ?_)
 refine sq_ev rfl (ev_call en21 (lr _) (known_pure) trivial) ?_
 refine asr (lr _) rfl ?_
 refine sq_nil (aw_ret ?_)
 exact retQ_pure (v := .raw _) rfl rfl (lr _)
set_option maxHeartbeats 8000000 in
set_option maxRecDepth 10000 in
theorem law19_yFF (p : Pl) (l : List Nat) (a b c : Int) (hs : p.scenes.length ≤ 12) (hl : l.length ≤ 12) (hk : PlOK p = true) (hc : (Ris p (up l) && isCh p (up l)) = true) (gp : GP p) (wp : WP p) (cv : CV p l) (hr : hrIn p a b c = true) (hsu : sureP p l = false) (hfi : fitsP p l [a, b, c] = false) (hmi : missH p [a, b, c] = false) (s : List Nat) (ha : surest p = some s) (hss : sureP p s = true) (hsl : s.length ≤ 12) (hsc : (Ris p (up s) && isCh p (up s)) = true) (hm : missed p = none) : APure Tryz.prog 19 [plan p, nats l, ints [a, b, c]] (B true) := by
 refine apure_of (rs := [.tmp 6]) Tryz.func19 rfl rfl (Nat.le_of_ble_eq_true rfl) (by simp [AV.pureL, AV.pureB, AV.pureE, pureE_map]) (rfl) fun e0 he0 => ?_
 refine aw_seq (aw_region ?_)
 refine sq_box rfl (lr _) rfl ?_
 refine asr (lr _) rfl ?_
 refine sq_nil (aw_seq (aw_seq (aw_region ?_)))
 refine sq_ev rfl (ev_load_agg (lr _) rfl ty27 rfl) ?_
 refine sq_ev rfl (ev_call en20 (lr _) (short_yes hs) ⟨lr _, trivial⟩) ?_
 refine sq_ev rfl (ev_not (lr _)) ?_
 refine mvr (lr _) rfl ?_
 refine ysl rfl rfl (lr _) rfl (lr _) ?_
 refine sq_yes rfl rfl (lr _) rfl (ev_call en45 (lr _) (slim_yesN hl) ⟨lr _, trivial⟩) ?_
 refine sq_yes rfl rfl (lr _) rfl (ev_not (lr _)) ?_
 refine pf rfl (lr _) (lr _) ?_
 refine mvr (lr _) rfl ?_
 refine sq_yes rfl rfl (lr _) rfl (ev_load_agg (lr _) rfl ty27 rfl) ?_
 refine sq_yes rfl rfl (lr _) rfl (ev_call en24 (lr _) (plan_yes hs hk) ⟨lr _, trivial⟩) ?_
 refine sq_yes rfl rfl (lr _) rfl (ev_not (lr _)) ?_
 refine pf rfl (lr _) (lr _) ?_
 refine mvr (lr _) rfl ?_
 refine sq_yes rfl rfl (lr _) rfl (ev_load_agg (lr _) rfl ty27 rfl) ?_
 refine ysl rfl rfl (lr _) rfl (lr _) ?_
 refine sq_yes rfl rfl (lr _) rfl (ev_call en47 (lr _) (cho_yesN hs hl hc) ⟨lr _, lr _, trivial⟩) ?_
 refine sq_yes rfl rfl (lr _) rfl (ev_not (lr _)) ?_
 refine pf rfl (lr _) (lr _) ?_
 refine mvr (lr _) rfl ?_
 refine ysl rfl rfl (lr _) rfl (lr _) ?_
 refine sq_yes rfl rfl (lr _) rfl (ev_len_map sl34 (lr _)) ?_
 refine sq_yes rfl rfl (lr _) rfl (ev_neq (lr _) (lr _)) ?_
 refine pf rfl (lr _) (lr _) ?_
 refine mvr (lr _) rfl ?_
 refine sq_yes rfl rfl (lr _) rfl (ev_load_agg (lr _) rfl ty27 rfl) ?_
 refine ysl rfl rfl (lr _) rfl (lr _) ?_
 refine sq_yes rfl rfl (lr _) rfl (ev_call en80 (lr _) (hours_val hr) ⟨lr _, lr _, trivial⟩) ?_
 refine sq_yes rfl rfl (lr _) rfl (ev_not (lr _)) ?_
 refine pf rfl (lr _) (lr _) ?_
 refine sq_nil ?_
 refine aw_false (lr _) ?_
 refine aw_skip (aw_seq (aw_region ?_))
 refine sq_ev rfl (ev_load_agg (lr _) rfl ty27 rfl) ?_
 refine mvs rfl (lr _) ?_
 refine sq_ev rfl (ev_call en64 (lr _) (sure_val hs hl hk hc hsu) ⟨lr _, lr _, trivial⟩) ?_
 refine sq_ev rfl (ev_mv (v := .tup _) (lr _)) ?_
 refine xtr rfl (lr _) rfl ?_
 refine xtr rfl (lr _) rfl ?_
 refine asr (lr _) rfl ?_
 refine asr (lr _) rfl ?_
 refine sq_nil (aw_seq (aw_region ?_))
 refine sq_ev rfl (ev_load_agg (lr _) rfl ty27 rfl) ?_
 refine sq_ev rfl (ev_call en65 (lr _) (su_yes hs hk ha) ⟨lr _, trivial⟩) ?_
 refine sq_ev rfl (ev_mv (v := .tup _) (lr _)) ?_
 refine xtr rfl (lr _) rfl ?_
 refine xtr rfl (lr _) rfl ?_
 refine ass rfl (lr _) ?_
 refine asr (lr _) rfl ?_
 refine sq_nil (aw_seq (aw_region ?_))
 refine sq_ev rfl (ev_load_agg (lr _) rfl ty27 rfl) ?_
 refine sq_ev rfl (ev_call en66 (lr _) (mi_no hs hk hm) ⟨lr _, trivial⟩) ?_
 refine sq_ev rfl (ev_mv (v := .tup _) (lr _)) ?_
 refine xtr rfl (lr _) rfl ?_
 refine xtr rfl (lr _) rfl ?_
 refine ass rfl (lr _) ?_
 refine asr (lr _) rfl ?_
 refine sq_nil (aw_seq (aw_region ?_))
 refine sq_ev rfl (ev_load_agg (lr _) rfl ty27 rfl) ?_
 refine mvs rfl (lr _) ?_
 refine sq_ev rfl (ev_call en81 (lr _) (ralone_pure p a b c) ⟨lr _, lr _, trivial⟩) ?_
 refine mvs rfl (lr _) ?_
 refine sq_ev rfl (ev_call en55 (lr _) (alone_canv hs hl hk cv hc hr hfi) ⟨lr _, lr _, trivial⟩) ?_
 refine sq_ev rfl (ev_mv (v := .tup _) (lr _)) ?_
 refine xtr rfl (lr _) rfl ?_
 refine xtr rfl (lr _) rfl ?_
 refine asr (lr _) rfl ?_
 refine asr (lr _) rfl ?_
 refine sq_nil (aw_seq (aw_region ?_))
 refine sq_ev rfl (ev_load_agg (lr _) rfl ty27 rfl) ?_
 refine mvs rfl (lr _) ?_
 refine sq_ev rfl (ev_call en81 (lr _) (ralone_pure p a b c) ⟨lr _, lr _, trivial⟩) ?_
 refine sq_ev rfl (ev_call en38 (lr _) (alone_val (v := true) hs hk hr hmi) ⟨lr _, trivial⟩) ?_
 refine sq_ev rfl (ev_mv (v := .tup _) (lr _)) ?_
 refine xtr rfl (lr _) rfl ?_
 refine xtr rfl (lr _) rfl ?_
 refine asr (lr _) rfl ?_
 refine asr (lr _) rfl ?_
 refine sq_nil (aw_seq (aw_seq (aw_region ?_)))
 refine mvr (lr _) rfl ?_
 refine sq_ev rfl (ev_neq (lr _) (lr _)) ?_
 refine mvr (lr _) rfl ?_
 refine ymr rfl rfl (lr _) rfl (lr _) ?_
 refine sq_yes rfl rfl (lr _) rfl (ev_neq (lr _) (lr _)) ?_
 refine ymr rfl rfl (lr _) rfl (lr _) ?_
 refine sq_no rfl rfl (lr _) rfl rfl ?_
 refine sq_no rfl rfl (lr _) rfl rfl ?_
 refine sq_yes rfl rfl (lr _) rfl (ev_pickF (v := .raw _) (lr _) (lr _)) ?_
 refine pf rfl (lr _) (lr _) ?_
 refine mvr (lr _) rfl ?_
 refine ymr rfl rfl (lr _) rfl (lr _) ?_
 refine sq_yes rfl rfl (lr _) rfl (ev_neq (lr _) (lr _)) ?_
 refine ymr rfl rfl (lr _) rfl (lr _) ?_
 refine ymr rfl rfl (lr _) rfl (lr _) ?_
 refine sq_yes rfl rfl (lr _) rfl (ev_neq (lr _) (lr _)) ?_
 refine sq_yes rfl rfl (lr _) rfl (ev_pickT (v := .raw _) (lr _) (lr _)) ?_
 refine pf rfl (lr _) (lr _) ?_
 refine mvr (lr _) rfl ?_
 refine ymr rfl rfl (lr _) rfl (lr _) ?_
 refine sq_yes rfl rfl (lr _) rfl (ev_neq (lr _) (lr _)) ?_
 refine pf rfl (lr _) (lr _) ?_
 refine mvr (lr _) rfl ?_
 refine ymr rfl rfl (lr _) rfl (lr _) ?_
 refine sq_yes rfl rfl (lr _) rfl (ev_not (lr _)) ?_
 refine pf rfl (lr _) (lr _) ?_
 refine mvr (lr _) rfl ?_
 refine ymr rfl rfl (lr _) rfl (lr _) ?_
 refine ymr rfl rfl (lr _) rfl (lr _) ?_
 refine sq_no rfl rfl (lr _) rfl rfl ?_
 refine sq_no rfl rfl (lr _) rfl rfl ?_
 refine sq_yes rfl rfl (lr _) rfl (ev_pickF (v := .raw _) (lr _) (lr _)) ?_
 refine pf rfl (lr _) (lr _) ?_
 refine mvr (lr _) rfl ?_
 refine ymr rfl rfl (lr _) rfl (lr _) ?_
 refine ymr rfl rfl (lr _) rfl (lr _) ?_
 refine sq_no rfl rfl (lr _) rfl rfl ?_
 refine sq_no rfl rfl (lr _) rfl rfl ?_
 refine sq_yes rfl rfl (lr _) rfl (ev_pickF (v := .raw _) (lr _) (lr _)) ?_
 refine pf rfl (lr _) (lr _) ?_
 refine mvr (lr _) rfl ?_
 refine ymr rfl rfl (lr _) rfl (lr _) ?_
 refine ymr rfl rfl (lr _) rfl (lr _) ?_
 refine sq_no rfl rfl (lr _) rfl rfl ?_
 refine sq_no rfl rfl (lr _) rfl rfl ?_
 refine sq_yes rfl rfl (lr _) rfl (ev_pickF (v := .raw _) (lr _) (lr _)) ?_
 refine pf rfl (lr _) (lr _) ?_
 refine mvr (lr _) rfl ?_
 refine ymr rfl rfl (lr _) rfl (lr _) ?_
 refine sq_yes rfl rfl (lr _) rfl (ev_eql (lr _) (lr _)) ?_
 refine ymr rfl rfl (lr _) rfl (lr _) ?_
 refine ymr rfl rfl (lr _) rfl (lr _) ?_
 refine sq_yes rfl rfl (lr _) rfl (ev_neq (lr _) (lr _)) ?_
 refine sq_yes rfl rfl (lr _) rfl (ev_pickT (v := .raw _) (lr _) (lr _)) ?_
 refine pf rfl (lr _) (lr _) ?_
 refine mvr (lr _) rfl ?_
 refine ymr rfl rfl (lr _) rfl (lr _) ?_
 refine sq_yes rfl rfl (lr _) rfl (ev_eql (lr _) (lr _)) ?_
 refine ymr rfl rfl (lr _) rfl (lr _) ?_
 refine ymr rfl rfl (lr _) rfl (lr _) ?_
 refine sq_yes rfl rfl (lr _) rfl (ev_not (lr _)) ?_
 refine sq_yes rfl rfl (lr _) rfl (ev_pickT (v := .raw _) (lr _) (lr _)) ?_
 refine pf rfl (lr _) (lr _) ?_
 refine sq_nil ?_
 refine aw_false (lr _) ?_
 refine aw_skip (aw_seq (aw_seq (aw_region ?_)))
 refine mvr (lr _) rfl ?_
 refine sq_ev rfl (ev_eql (lr _) (lr _)) ?_
 refine sq_nil ?_
 refine aw_true (lr _) ?_
 refine aw_seq (aw_region ?_)
 refine sq_ev rfl (ev_load_agg (lr _) rfl ty27 rfl) ?_
 refine mvs rfl (lr _) ?_
 refine sq_ev rfl (ev_call en64 (lr _) (sure_val hs hsl hk hsc hss) ⟨lr _, lr _, trivial⟩) ?_
 refine sq_ev rfl (ev_mv (v := .tup _) (lr _)) ?_
 refine xtr rfl (lr _) rfl ?_
 refine xtr rfl (lr _) rfl ?_
 refine asr (lr _) rfl ?_
 refine asr (lr _) rfl ?_
 refine sq_nil (aw_seq (aw_region ?_))
 refine sq_ev rfl (ev_load_agg (lr _) rfl ty27 rfl) ?_
 refine mvs rfl (lr _) ?_
 refine sq_ev rfl (ev_call en47 (lr _) (cho_yesN hs hsl hsc) ⟨lr _, lr _, trivial⟩) ?_
 refine sq_ev rfl (ev_not (lr _)) ?_
 refine mvr (lr _) rfl ?_
 refine ymr rfl rfl (lr _) rfl (lr _) ?_
 refine sq_yes rfl rfl (lr _) rfl (ev_neq (lr _) (lr _)) ?_
 refine pf rfl (lr _) (lr _) ?_
 refine mvr (lr _) rfl ?_
 refine ymr rfl rfl (lr _) rfl (lr _) ?_
 refine sq_yes rfl rfl (lr _) rfl (ev_not (lr _)) ?_
 refine pf rfl (lr _) (lr _) ?_
 refine mvr (lr _) rfl ?_
 refine ymr rfl rfl (lr _) rfl (lr _) ?_
 refine ymr rfl rfl (lr _) rfl (lr _) ?_
 refine sq_no rfl rfl (lr _) rfl rfl ?_
 refine sq_no rfl rfl (lr _) rfl rfl ?_
 refine sq_no rfl rfl (lr _) rfl rfl ?_
 refine sq_yes rfl rfl (lr _) rfl (ev_pickF (v := .raw _) (lr _) (lr _)) ?_
 refine pf rfl (lr _) (lr _) ?_
 refine sq_nil ?_
 refine aw_false (lr _) ?_
 refine aw_skip (aw_seq (aw_seq (aw_region ?_)))
 refine mvr (lr _) rfl ?_
 refine sq_ev rfl (ev_neq (lr _) (lr _)) ?_
 refine sq_nil ?_
 refine aw_true (lr _) ?_
 refine aw_seq (aw_region ?_)
 refine sq_ev rfl (ev_call en21 (lr _) (known_pure) trivial) ?_
 refine asr (lr _) rfl ?_
 refine sq_nil (aw_ret ?_)
 exact retQ_pure (v := .raw _) rfl rfl (lr _)
set_option maxHeartbeats 8000000 in
set_option maxRecDepth 10000 in
theorem law19_nTT (p : Pl) (l : List Nat) (a b c : Int) (hs : p.scenes.length ≤ 12) (hl : l.length ≤ 12) (hk : PlOK p = true) (hc : (Ris p (up l) && isCh p (up l)) = true) (gp : GP p) (wp : WP p) (cv : CV p l) (hr : hrIn p a b c = true) (hsu : sureP p l = false) (hfi : fitsP p l [a, b, c] = true) (hmi : missH p [a, b, c] = false) (ha : surest p = none) (hm : missed p = none) : APure Tryz.prog 19 [plan p, nats l, ints [a, b, c]] (B true) := by
 refine apure_of (rs := [.tmp 6]) Tryz.func19 rfl rfl (Nat.le_of_ble_eq_true rfl) (by simp [AV.pureL, AV.pureB, AV.pureE, pureE_map]) (rfl) fun e0 he0 => ?_
 refine aw_seq (aw_region ?_)
 refine sq_box rfl (lr _) rfl ?_
 refine asr (lr _) rfl ?_
 refine sq_nil (aw_seq (aw_seq (aw_region ?_)))
 refine sq_ev rfl (ev_load_agg (lr _) rfl ty27 rfl) ?_
 refine sq_ev rfl (ev_call en20 (lr _) (short_yes hs) ⟨lr _, trivial⟩) ?_
 refine sq_ev rfl (ev_not (lr _)) ?_
 refine mvr (lr _) rfl ?_
 refine ysl rfl rfl (lr _) rfl (lr _) ?_
 refine sq_yes rfl rfl (lr _) rfl (ev_call en45 (lr _) (slim_yesN hl) ⟨lr _, trivial⟩) ?_
 refine sq_yes rfl rfl (lr _) rfl (ev_not (lr _)) ?_
 refine pf rfl (lr _) (lr _) ?_
 refine mvr (lr _) rfl ?_
 refine sq_yes rfl rfl (lr _) rfl (ev_load_agg (lr _) rfl ty27 rfl) ?_
 refine sq_yes rfl rfl (lr _) rfl (ev_call en24 (lr _) (plan_yes hs hk) ⟨lr _, trivial⟩) ?_
 refine sq_yes rfl rfl (lr _) rfl (ev_not (lr _)) ?_
 refine pf rfl (lr _) (lr _) ?_
 refine mvr (lr _) rfl ?_
 refine sq_yes rfl rfl (lr _) rfl (ev_load_agg (lr _) rfl ty27 rfl) ?_
 refine ysl rfl rfl (lr _) rfl (lr _) ?_
 refine sq_yes rfl rfl (lr _) rfl (ev_call en47 (lr _) (cho_yesN hs hl hc) ⟨lr _, lr _, trivial⟩) ?_
 refine sq_yes rfl rfl (lr _) rfl (ev_not (lr _)) ?_
 refine pf rfl (lr _) (lr _) ?_
 refine mvr (lr _) rfl ?_
 refine ysl rfl rfl (lr _) rfl (lr _) ?_
 refine sq_yes rfl rfl (lr _) rfl (ev_len_map sl34 (lr _)) ?_
 refine sq_yes rfl rfl (lr _) rfl (ev_neq (lr _) (lr _)) ?_
 refine pf rfl (lr _) (lr _) ?_
 refine mvr (lr _) rfl ?_
 refine sq_yes rfl rfl (lr _) rfl (ev_load_agg (lr _) rfl ty27 rfl) ?_
 refine ysl rfl rfl (lr _) rfl (lr _) ?_
 refine sq_yes rfl rfl (lr _) rfl (ev_call en80 (lr _) (hours_val hr) ⟨lr _, lr _, trivial⟩) ?_
 refine sq_yes rfl rfl (lr _) rfl (ev_not (lr _)) ?_
 refine pf rfl (lr _) (lr _) ?_
 refine sq_nil ?_
 refine aw_false (lr _) ?_
 refine aw_skip (aw_seq (aw_region ?_))
 refine sq_ev rfl (ev_load_agg (lr _) rfl ty27 rfl) ?_
 refine mvs rfl (lr _) ?_
 refine sq_ev rfl (ev_call en64 (lr _) (sure_val hs hl hk hc hsu) ⟨lr _, lr _, trivial⟩) ?_
 refine sq_ev rfl (ev_mv (v := .tup _) (lr _)) ?_
 refine xtr rfl (lr _) rfl ?_
 refine xtr rfl (lr _) rfl ?_
 refine asr (lr _) rfl ?_
 refine asr (lr _) rfl ?_
 refine sq_nil (aw_seq (aw_region ?_))
 refine sq_ev rfl (ev_load_agg (lr _) rfl ty27 rfl) ?_
 refine sq_ev rfl (ev_call en65 (lr _) (su_no hs hk ha) ⟨lr _, trivial⟩) ?_
 refine sq_ev rfl (ev_mv (v := .tup _) (lr _)) ?_
 refine xtr rfl (lr _) rfl ?_
 refine xtr rfl (lr _) rfl ?_
 refine ass rfl (lr _) ?_
 refine asr (lr _) rfl ?_
 refine sq_nil (aw_seq (aw_region ?_))
 refine sq_ev rfl (ev_load_agg (lr _) rfl ty27 rfl) ?_
 refine sq_ev rfl (ev_call en66 (lr _) (mi_no hs hk hm) ⟨lr _, trivial⟩) ?_
 refine sq_ev rfl (ev_mv (v := .tup _) (lr _)) ?_
 refine xtr rfl (lr _) rfl ?_
 refine xtr rfl (lr _) rfl ?_
 refine ass rfl (lr _) ?_
 refine asr (lr _) rfl ?_
 refine sq_nil (aw_seq (aw_region ?_))
 refine sq_ev rfl (ev_load_agg (lr _) rfl ty27 rfl) ?_
 refine mvs rfl (lr _) ?_
 refine sq_ev rfl (ev_call en81 (lr _) (ralone_pure p a b c) ⟨lr _, lr _, trivial⟩) ?_
 refine mvs rfl (lr _) ?_
 refine sq_ev rfl (ev_call en55 (lr _) (alone_canv hs hl hk cv hc hr hfi) ⟨lr _, lr _, trivial⟩) ?_
 refine sq_ev rfl (ev_mv (v := .tup _) (lr _)) ?_
 refine xtr rfl (lr _) rfl ?_
 refine xtr rfl (lr _) rfl ?_
 refine asr (lr _) rfl ?_
 refine asr (lr _) rfl ?_
 refine sq_nil (aw_seq (aw_region ?_))
 refine sq_ev rfl (ev_load_agg (lr _) rfl ty27 rfl) ?_
 refine mvs rfl (lr _) ?_
 refine sq_ev rfl (ev_call en81 (lr _) (ralone_pure p a b c) ⟨lr _, lr _, trivial⟩) ?_
 refine sq_ev rfl (ev_call en38 (lr _) (alone_val (v := true) hs hk hr hmi) ⟨lr _, trivial⟩) ?_
 refine sq_ev rfl (ev_mv (v := .tup _) (lr _)) ?_
 refine xtr rfl (lr _) rfl ?_
 refine xtr rfl (lr _) rfl ?_
 refine asr (lr _) rfl ?_
 refine asr (lr _) rfl ?_
 refine sq_nil (aw_seq (aw_seq (aw_region ?_)))
 refine mvr (lr _) rfl ?_
 refine sq_ev rfl (ev_neq (lr _) (lr _)) ?_
 refine mvr (lr _) rfl ?_
 refine ymr rfl rfl (lr _) rfl (lr _) ?_
 refine sq_yes rfl rfl (lr _) rfl (ev_neq (lr _) (lr _)) ?_
 refine ymr rfl rfl (lr _) rfl (lr _) ?_
 refine ymr rfl rfl (lr _) rfl (lr _) ?_
 refine sq_yes rfl rfl (lr _) rfl (ev_neq (lr _) (lr _)) ?_
 refine sq_yes rfl rfl (lr _) rfl (ev_pickT (v := .raw _) (lr _) (lr _)) ?_
 refine pf rfl (lr _) (lr _) ?_
 refine mvr (lr _) rfl ?_
 refine ymr rfl rfl (lr _) rfl (lr _) ?_
 refine sq_yes rfl rfl (lr _) rfl (ev_neq (lr _) (lr _)) ?_
 refine ymr rfl rfl (lr _) rfl (lr _) ?_
 refine ymr rfl rfl (lr _) rfl (lr _) ?_
 refine sq_yes rfl rfl (lr _) rfl (ev_neq (lr _) (lr _)) ?_
 refine sq_yes rfl rfl (lr _) rfl (ev_pickT (v := .raw _) (lr _) (lr _)) ?_
 refine pf rfl (lr _) (lr _) ?_
 refine mvr (lr _) rfl ?_
 refine ymr rfl rfl (lr _) rfl (lr _) ?_
 refine sq_yes rfl rfl (lr _) rfl (ev_neq (lr _) (lr _)) ?_
 refine pf rfl (lr _) (lr _) ?_
 refine mvr (lr _) rfl ?_
 refine ymr rfl rfl (lr _) rfl (lr _) ?_
 refine sq_yes rfl rfl (lr _) rfl (ev_not (lr _)) ?_
 refine pf rfl (lr _) (lr _) ?_
 refine mvr (lr _) rfl ?_
 refine ymr rfl rfl (lr _) rfl (lr _) ?_
 refine ymr rfl rfl (lr _) rfl (lr _) ?_
 refine sq_no rfl rfl (lr _) rfl rfl ?_
 refine sq_no rfl rfl (lr _) rfl rfl ?_
 refine sq_yes rfl rfl (lr _) rfl (ev_pickF (v := .raw _) (lr _) (lr _)) ?_
 refine pf rfl (lr _) (lr _) ?_
 refine mvr (lr _) rfl ?_
 refine ymr rfl rfl (lr _) rfl (lr _) ?_
 refine ymr rfl rfl (lr _) rfl (lr _) ?_
 refine ymr rfl rfl (lr _) rfl (lr _) ?_
 refine sq_yes rfl rfl (lr _) rfl (ev_not (lr _)) ?_
 refine sq_yes rfl rfl (lr _) rfl (ev_pickT (v := .raw _) (lr _) (lr _)) ?_
 refine pf rfl (lr _) (lr _) ?_
 refine mvr (lr _) rfl ?_
 refine ymr rfl rfl (lr _) rfl (lr _) ?_
 refine ymr rfl rfl (lr _) rfl (lr _) ?_
 refine sq_no rfl rfl (lr _) rfl rfl ?_
 refine sq_no rfl rfl (lr _) rfl rfl ?_
 refine sq_yes rfl rfl (lr _) rfl (ev_pickF (v := .raw _) (lr _) (lr _)) ?_
 refine pf rfl (lr _) (lr _) ?_
 refine mvr (lr _) rfl ?_
 refine ymr rfl rfl (lr _) rfl (lr _) ?_
 refine sq_yes rfl rfl (lr _) rfl (ev_eql (lr _) (lr _)) ?_
 refine ymr rfl rfl (lr _) rfl (lr _) ?_
 refine sq_no rfl rfl (lr _) rfl rfl ?_
 refine sq_no rfl rfl (lr _) rfl rfl ?_
 refine sq_yes rfl rfl (lr _) rfl (ev_pickF (v := .raw _) (lr _) (lr _)) ?_
 refine pf rfl (lr _) (lr _) ?_
 refine mvr (lr _) rfl ?_
 refine ymr rfl rfl (lr _) rfl (lr _) ?_
 refine sq_yes rfl rfl (lr _) rfl (ev_eql (lr _) (lr _)) ?_
 refine ymr rfl rfl (lr _) rfl (lr _) ?_
 refine ymr rfl rfl (lr _) rfl (lr _) ?_
 refine sq_yes rfl rfl (lr _) rfl (ev_not (lr _)) ?_
 refine sq_yes rfl rfl (lr _) rfl (ev_pickT (v := .raw _) (lr _) (lr _)) ?_
 refine pf rfl (lr _) (lr _) ?_
 refine sq_nil ?_
 refine aw_false (lr _) ?_
 refine aw_skip (aw_seq (aw_seq (aw_region ?_)))
 refine mvr (lr _) rfl ?_
 refine sq_ev rfl (ev_eql (lr _) (lr _)) ?_
 refine sq_nil ?_
 refine aw_false (lr _) ?_
 refine aw_skip (aw_seq (aw_seq (aw_region ?_)))
 refine mvr (lr _) rfl ?_
 refine sq_ev rfl (ev_neq (lr _) (lr _)) ?_
 refine sq_nil ?_
 refine aw_true (lr _) ?_
 refine aw_seq (aw_region ?_)
 refine sq_ev rfl (ev_call en21 (lr _) (known_pure) trivial) ?_
 refine asr (lr _) rfl ?_
 refine sq_nil (aw_ret ?_)
 exact retQ_pure (v := .raw _) rfl rfl (lr _)
set_option maxHeartbeats 8000000 in
set_option maxRecDepth 10000 in
theorem law19_mFF (p : Pl) (l : List Nat) (a b c : Int) (hs : p.scenes.length ≤ 12) (hl : l.length ≤ 12) (hk : PlOK p = true) (hc : (Ris p (up l) && isCh p (up l)) = true) (gp : GP p) (wp : WP p) (cv : CV p l) (hr : hrIn p a b c = true) (hsu : sureP p l = false) (hfi : fitsP p l [a, b, c] = false) (hmi : missH p [a, b, c] = true) (ha : surest p = none) (x y z : Int) (hm : missed p = some [x, y, z]) (hx : hrIn p x y z = true) (hxm : missH p [x, y, z] = true) (hle : lexB [a, b, c] [x, y, z] = false) : APure Tryz.prog 19 [plan p, nats l, ints [a, b, c]] (B true) := by
 refine apure_of (rs := [.tmp 6]) Tryz.func19 rfl rfl (Nat.le_of_ble_eq_true rfl) (by simp [AV.pureL, AV.pureB, AV.pureE, pureE_map]) (rfl) fun e0 he0 => ?_
 refine aw_seq (aw_region ?_)
 refine sq_box rfl (lr _) rfl ?_
 refine asr (lr _) rfl ?_
 refine sq_nil (aw_seq (aw_seq (aw_region ?_)))
 refine sq_ev rfl (ev_load_agg (lr _) rfl ty27 rfl) ?_
 refine sq_ev rfl (ev_call en20 (lr _) (short_yes hs) ⟨lr _, trivial⟩) ?_
 refine sq_ev rfl (ev_not (lr _)) ?_
 refine mvr (lr _) rfl ?_
 refine ysl rfl rfl (lr _) rfl (lr _) ?_
 refine sq_yes rfl rfl (lr _) rfl (ev_call en45 (lr _) (slim_yesN hl) ⟨lr _, trivial⟩) ?_
 refine sq_yes rfl rfl (lr _) rfl (ev_not (lr _)) ?_
 refine pf rfl (lr _) (lr _) ?_
 refine mvr (lr _) rfl ?_
 refine sq_yes rfl rfl (lr _) rfl (ev_load_agg (lr _) rfl ty27 rfl) ?_
 refine sq_yes rfl rfl (lr _) rfl (ev_call en24 (lr _) (plan_yes hs hk) ⟨lr _, trivial⟩) ?_
 refine sq_yes rfl rfl (lr _) rfl (ev_not (lr _)) ?_
 refine pf rfl (lr _) (lr _) ?_
 refine mvr (lr _) rfl ?_
 refine sq_yes rfl rfl (lr _) rfl (ev_load_agg (lr _) rfl ty27 rfl) ?_
 refine ysl rfl rfl (lr _) rfl (lr _) ?_
 refine sq_yes rfl rfl (lr _) rfl (ev_call en47 (lr _) (cho_yesN hs hl hc) ⟨lr _, lr _, trivial⟩) ?_
 refine sq_yes rfl rfl (lr _) rfl (ev_not (lr _)) ?_
 refine pf rfl (lr _) (lr _) ?_
 refine mvr (lr _) rfl ?_
 refine ysl rfl rfl (lr _) rfl (lr _) ?_
 refine sq_yes rfl rfl (lr _) rfl (ev_len_map sl34 (lr _)) ?_
 refine sq_yes rfl rfl (lr _) rfl (ev_neq (lr _) (lr _)) ?_
 refine pf rfl (lr _) (lr _) ?_
 refine mvr (lr _) rfl ?_
 refine sq_yes rfl rfl (lr _) rfl (ev_load_agg (lr _) rfl ty27 rfl) ?_
 refine ysl rfl rfl (lr _) rfl (lr _) ?_
 refine sq_yes rfl rfl (lr _) rfl (ev_call en80 (lr _) (hours_val hr) ⟨lr _, lr _, trivial⟩) ?_
 refine sq_yes rfl rfl (lr _) rfl (ev_not (lr _)) ?_
 refine pf rfl (lr _) (lr _) ?_
 refine sq_nil ?_
 refine aw_false (lr _) ?_
 refine aw_skip (aw_seq (aw_region ?_))
 refine sq_ev rfl (ev_load_agg (lr _) rfl ty27 rfl) ?_
 refine mvs rfl (lr _) ?_
 refine sq_ev rfl (ev_call en64 (lr _) (sure_val hs hl hk hc hsu) ⟨lr _, lr _, trivial⟩) ?_
 refine sq_ev rfl (ev_mv (v := .tup _) (lr _)) ?_
 refine xtr rfl (lr _) rfl ?_
 refine xtr rfl (lr _) rfl ?_
 refine asr (lr _) rfl ?_
 refine asr (lr _) rfl ?_
 refine sq_nil (aw_seq (aw_region ?_))
 refine sq_ev rfl (ev_load_agg (lr _) rfl ty27 rfl) ?_
 refine sq_ev rfl (ev_call en65 (lr _) (su_no hs hk ha) ⟨lr _, trivial⟩) ?_
 refine sq_ev rfl (ev_mv (v := .tup _) (lr _)) ?_
 refine xtr rfl (lr _) rfl ?_
 refine xtr rfl (lr _) rfl ?_
 refine ass rfl (lr _) ?_
 refine asr (lr _) rfl ?_
 refine sq_nil (aw_seq (aw_region ?_))
 refine sq_ev rfl (ev_load_agg (lr _) rfl ty27 rfl) ?_
 refine sq_ev rfl (ev_call en66 (lr _) (mi_yes hs hk hm) ⟨lr _, trivial⟩) ?_
 refine sq_ev rfl (ev_mv (v := .tup _) (lr _)) ?_
 refine xtr rfl (lr _) rfl ?_
 refine xtr rfl (lr _) rfl ?_
 refine ass rfl (lr _) ?_
 refine asr (lr _) rfl ?_
 refine sq_nil (aw_seq (aw_region ?_))
 refine sq_ev rfl (ev_load_agg (lr _) rfl ty27 rfl) ?_
 refine mvs rfl (lr _) ?_
 refine sq_ev rfl (ev_call en81 (lr _) (ralone_pure p a b c) ⟨lr _, lr _, trivial⟩) ?_
 refine mvs rfl (lr _) ?_
 refine sq_ev rfl (ev_call en55 (lr _) (alone_canv hs hl hk cv hc hr hfi) ⟨lr _, lr _, trivial⟩) ?_
 refine sq_ev rfl (ev_mv (v := .tup _) (lr _)) ?_
 refine xtr rfl (lr _) rfl ?_
 refine xtr rfl (lr _) rfl ?_
 refine asr (lr _) rfl ?_
 refine asr (lr _) rfl ?_
 refine sq_nil (aw_seq (aw_region ?_))
 refine sq_ev rfl (ev_load_agg (lr _) rfl ty27 rfl) ?_
 refine mvs rfl (lr _) ?_
 refine sq_ev rfl (ev_call en81 (lr _) (ralone_pure p a b c) ⟨lr _, lr _, trivial⟩) ?_
 refine sq_ev rfl (ev_call en38 (lr _) (alone_val (v := false) hs hk hr hmi) ⟨lr _, trivial⟩) ?_
 refine sq_ev rfl (ev_mv (v := .tup _) (lr _)) ?_
 refine xtr rfl (lr _) rfl ?_
 refine xtr rfl (lr _) rfl ?_
 refine asr (lr _) rfl ?_
 refine asr (lr _) rfl ?_
 refine sq_nil (aw_seq (aw_seq (aw_region ?_)))
 refine mvr (lr _) rfl ?_
 refine sq_ev rfl (ev_neq (lr _) (lr _)) ?_
 refine mvr (lr _) rfl ?_
 refine ymr rfl rfl (lr _) rfl (lr _) ?_
 refine sq_yes rfl rfl (lr _) rfl (ev_neq (lr _) (lr _)) ?_
 refine ymr rfl rfl (lr _) rfl (lr _) ?_
 refine ymr rfl rfl (lr _) rfl (lr _) ?_
 refine sq_yes rfl rfl (lr _) rfl (ev_neq (lr _) (lr _)) ?_
 refine sq_yes rfl rfl (lr _) rfl (ev_pickT (v := .raw _) (lr _) (lr _)) ?_
 refine pf rfl (lr _) (lr _) ?_
 refine mvr (lr _) rfl ?_
 refine ymr rfl rfl (lr _) rfl (lr _) ?_
 refine sq_yes rfl rfl (lr _) rfl (ev_neq (lr _) (lr _)) ?_
 refine ymr rfl rfl (lr _) rfl (lr _) ?_
 refine sq_no rfl rfl (lr _) rfl rfl ?_
 refine sq_no rfl rfl (lr _) rfl rfl ?_
 refine sq_yes rfl rfl (lr _) rfl (ev_pickF (v := .raw _) (lr _) (lr _)) ?_
 refine pf rfl (lr _) (lr _) ?_
 refine mvr (lr _) rfl ?_
 refine ymr rfl rfl (lr _) rfl (lr _) ?_
 refine sq_yes rfl rfl (lr _) rfl (ev_neq (lr _) (lr _)) ?_
 refine pf rfl (lr _) (lr _) ?_
 refine mvr (lr _) rfl ?_
 refine ymr rfl rfl (lr _) rfl (lr _) ?_
 refine sq_yes rfl rfl (lr _) rfl (ev_not (lr _)) ?_
 refine pf rfl (lr _) (lr _) ?_
 refine mvr (lr _) rfl ?_
 refine ymr rfl rfl (lr _) rfl (lr _) ?_
 refine ymr rfl rfl (lr _) rfl (lr _) ?_
 refine sq_no rfl rfl (lr _) rfl rfl ?_
 refine sq_no rfl rfl (lr _) rfl rfl ?_
 refine sq_yes rfl rfl (lr _) rfl (ev_pickF (v := .raw _) (lr _) (lr _)) ?_
 refine pf rfl (lr _) (lr _) ?_
 refine mvr (lr _) rfl ?_
 refine ymr rfl rfl (lr _) rfl (lr _) ?_
 refine ymr rfl rfl (lr _) rfl (lr _) ?_
 refine sq_no rfl rfl (lr _) rfl rfl ?_
 refine sq_no rfl rfl (lr _) rfl rfl ?_
 refine sq_yes rfl rfl (lr _) rfl (ev_pickF (v := .raw _) (lr _) (lr _)) ?_
 refine pf rfl (lr _) (lr _) ?_
 refine mvr (lr _) rfl ?_
 refine ymr rfl rfl (lr _) rfl (lr _) ?_
 refine ymr rfl rfl (lr _) rfl (lr _) ?_
 refine sq_no rfl rfl (lr _) rfl rfl ?_
 refine sq_no rfl rfl (lr _) rfl rfl ?_
 refine sq_yes rfl rfl (lr _) rfl (ev_pickF (v := .raw _) (lr _) (lr _)) ?_
 refine pf rfl (lr _) (lr _) ?_
 refine mvr (lr _) rfl ?_
 refine ymr rfl rfl (lr _) rfl (lr _) ?_
 refine sq_yes rfl rfl (lr _) rfl (ev_eql (lr _) (lr _)) ?_
 refine ymr rfl rfl (lr _) rfl (lr _) ?_
 refine sq_no rfl rfl (lr _) rfl rfl ?_
 refine sq_no rfl rfl (lr _) rfl rfl ?_
 refine sq_yes rfl rfl (lr _) rfl (ev_pickF (v := .raw _) (lr _) (lr _)) ?_
 refine pf rfl (lr _) (lr _) ?_
 refine mvr (lr _) rfl ?_
 refine ymr rfl rfl (lr _) rfl (lr _) ?_
 refine sq_yes rfl rfl (lr _) rfl (ev_eql (lr _) (lr _)) ?_
 refine ymr rfl rfl (lr _) rfl (lr _) ?_
 refine sq_no rfl rfl (lr _) rfl rfl ?_
 refine sq_no rfl rfl (lr _) rfl rfl ?_
 refine sq_yes rfl rfl (lr _) rfl (ev_pickF (v := .raw _) (lr _) (lr _)) ?_
 refine pf rfl (lr _) (lr _) ?_
 refine sq_nil ?_
 refine aw_false (lr _) ?_
 refine aw_skip (aw_seq (aw_seq (aw_region ?_)))
 refine mvr (lr _) rfl ?_
 refine sq_ev rfl (ev_eql (lr _) (lr _)) ?_
 refine sq_nil ?_
 refine aw_false (lr _) ?_
 refine aw_skip (aw_seq (aw_seq (aw_region ?_)))
 refine mvr (lr _) rfl ?_
 refine sq_ev rfl (ev_neq (lr _) (lr _)) ?_
 refine sq_nil ?_
 refine aw_false (lr _) ?_
 refine aw_skip (aw_seq (aw_seq (aw_region ?_)))
 refine sq_ev rfl (ev_load_agg (lr _) rfl ty27 rfl) ?_
 refine mvs rfl (lr _) ?_
 refine sq_ev rfl (ev_call en80 (lr _) (hours_val hx) ⟨lr _, lr _, trivial⟩) ?_
 refine sq_ev rfl (ev_not (lr _)) ?_
 refine mvr (lr _) rfl ?_
 refine ymr rfl rfl (lr _) rfl (lr _) ?_
 refine sq_yes rfl rfl (lr _) rfl (ev_not (lr _)) ?_
 refine ymr rfl rfl (lr _) rfl (lr _) ?_
 refine ysl rfl rfl (lr _) rfl (lr _) ?_
 refine ysl rfl rfl (lr _) rfl (lr _) ?_
 refine sq_yes rfl rfl (lr _) rfl (ev_call en82 (lr _) (early_val rfl rfl hle) ⟨lr _, lr _, trivial⟩) ?_
 refine sq_yes rfl rfl (lr _) rfl (ev_pickT (v := .raw _) (lr _) (lr _)) ?_
 refine pf rfl (lr _) (lr _) ?_
 refine sq_nil ?_
 refine aw_false (lr _) ?_
 refine aw_skip (aw_seq (aw_region ?_))
 refine sq_ev rfl (ev_load_agg (lr _) rfl ty27 rfl) ?_
 refine mvs rfl (lr _) ?_
 refine sq_ev rfl (ev_call en81 (lr _) (ralone_pure p x y z) ⟨lr _, lr _, trivial⟩) ?_
 refine sq_ev rfl (ev_call en38 (lr _) (alone_val (v := false) hs hk hx hxm) ⟨lr _, trivial⟩) ?_
 refine sq_ev rfl (ev_mv (v := .tup _) (lr _)) ?_
 refine xtr rfl (lr _) rfl ?_
 refine xtr rfl (lr _) rfl ?_
 refine asr (lr _) rfl ?_
 refine asr (lr _) rfl ?_
 refine sq_nil (aw_seq (aw_region ?_))
 refine mvr (lr _) rfl ?_
 refine mvr (lr _) rfl ?_
 refine ymr rfl rfl (lr _) rfl (lr _) ?_
 refine sq_yes rfl rfl (lr _) rfl (ev_not (lr _)) ?_
 refine sq_ev rfl (ev_pickT (v := .raw _) (lr _) (lr _)) ?_
 refine mvr (lr _) rfl ?_
 refine sq_yes rfl rfl (lr _) rfl (ev_call en21 (lr _) (known_pure) trivial) ?_
 refine sq_ev rfl (ev_pickT (v := .raw _) (lr _) (lr _)) ?_
 refine asr (lr _) rfl ?_
 refine sq_nil (aw_ret ?_)
 exact retQ_pure (v := .raw _) rfl rfl (lr _)
set_option maxHeartbeats 8000000 in
set_option maxRecDepth 10000 in
theorem law19_mTT (p : Pl) (l : List Nat) (a b c : Int) (hs : p.scenes.length ≤ 12) (hl : l.length ≤ 12) (hk : PlOK p = true) (hc : (Ris p (up l) && isCh p (up l)) = true) (gp : GP p) (wp : WP p) (cv : CV p l) (hr : hrIn p a b c = true) (hsu : sureP p l = false) (hfi : fitsP p l [a, b, c] = true) (hmi : missH p [a, b, c] = false) (ha : surest p = none) (x y z : Int) (hm : missed p = some [x, y, z]) (hx : hrIn p x y z = true) (hxm : missH p [x, y, z] = true) : APure Tryz.prog 19 [plan p, nats l, ints [a, b, c]] (B true) := by
 refine apure_of (rs := [.tmp 6]) Tryz.func19 rfl rfl (Nat.le_of_ble_eq_true rfl) (by simp [AV.pureL, AV.pureB, AV.pureE, pureE_map]) (rfl) fun e0 he0 => ?_
 refine aw_seq (aw_region ?_)
 refine sq_box rfl (lr _) rfl ?_
 refine asr (lr _) rfl ?_
 refine sq_nil (aw_seq (aw_seq (aw_region ?_)))
 refine sq_ev rfl (ev_load_agg (lr _) rfl ty27 rfl) ?_
 refine sq_ev rfl (ev_call en20 (lr _) (short_yes hs) ⟨lr _, trivial⟩) ?_
 refine sq_ev rfl (ev_not (lr _)) ?_
 refine mvr (lr _) rfl ?_
 refine ysl rfl rfl (lr _) rfl (lr _) ?_
 refine sq_yes rfl rfl (lr _) rfl (ev_call en45 (lr _) (slim_yesN hl) ⟨lr _, trivial⟩) ?_
 refine sq_yes rfl rfl (lr _) rfl (ev_not (lr _)) ?_
 refine pf rfl (lr _) (lr _) ?_
 refine mvr (lr _) rfl ?_
 refine sq_yes rfl rfl (lr _) rfl (ev_load_agg (lr _) rfl ty27 rfl) ?_
 refine sq_yes rfl rfl (lr _) rfl (ev_call en24 (lr _) (plan_yes hs hk) ⟨lr _, trivial⟩) ?_
 refine sq_yes rfl rfl (lr _) rfl (ev_not (lr _)) ?_
 refine pf rfl (lr _) (lr _) ?_
 refine mvr (lr _) rfl ?_
 refine sq_yes rfl rfl (lr _) rfl (ev_load_agg (lr _) rfl ty27 rfl) ?_
 refine ysl rfl rfl (lr _) rfl (lr _) ?_
 refine sq_yes rfl rfl (lr _) rfl (ev_call en47 (lr _) (cho_yesN hs hl hc) ⟨lr _, lr _, trivial⟩) ?_
 refine sq_yes rfl rfl (lr _) rfl (ev_not (lr _)) ?_
 refine pf rfl (lr _) (lr _) ?_
 refine mvr (lr _) rfl ?_
 refine ysl rfl rfl (lr _) rfl (lr _) ?_
 refine sq_yes rfl rfl (lr _) rfl (ev_len_map sl34 (lr _)) ?_
 refine sq_yes rfl rfl (lr _) rfl (ev_neq (lr _) (lr _)) ?_
 refine pf rfl (lr _) (lr _) ?_
 refine mvr (lr _) rfl ?_
 refine sq_yes rfl rfl (lr _) rfl (ev_load_agg (lr _) rfl ty27 rfl) ?_
 refine ysl rfl rfl (lr _) rfl (lr _) ?_
 refine sq_yes rfl rfl (lr _) rfl (ev_call en80 (lr _) (hours_val hr) ⟨lr _, lr _, trivial⟩) ?_
 refine sq_yes rfl rfl (lr _) rfl (ev_not (lr _)) ?_
 refine pf rfl (lr _) (lr _) ?_
 refine sq_nil ?_
 refine aw_false (lr _) ?_
 refine aw_skip (aw_seq (aw_region ?_))
 refine sq_ev rfl (ev_load_agg (lr _) rfl ty27 rfl) ?_
 refine mvs rfl (lr _) ?_
 refine sq_ev rfl (ev_call en64 (lr _) (sure_val hs hl hk hc hsu) ⟨lr _, lr _, trivial⟩) ?_
 refine sq_ev rfl (ev_mv (v := .tup _) (lr _)) ?_
 refine xtr rfl (lr _) rfl ?_
 refine xtr rfl (lr _) rfl ?_
 refine asr (lr _) rfl ?_
 refine asr (lr _) rfl ?_
 refine sq_nil (aw_seq (aw_region ?_))
 refine sq_ev rfl (ev_load_agg (lr _) rfl ty27 rfl) ?_
 refine sq_ev rfl (ev_call en65 (lr _) (su_no hs hk ha) ⟨lr _, trivial⟩) ?_
 refine sq_ev rfl (ev_mv (v := .tup _) (lr _)) ?_
 refine xtr rfl (lr _) rfl ?_
 refine xtr rfl (lr _) rfl ?_
 refine ass rfl (lr _) ?_
 refine asr (lr _) rfl ?_
 refine sq_nil (aw_seq (aw_region ?_))
 refine sq_ev rfl (ev_load_agg (lr _) rfl ty27 rfl) ?_
 refine sq_ev rfl (ev_call en66 (lr _) (mi_yes hs hk hm) ⟨lr _, trivial⟩) ?_
 refine sq_ev rfl (ev_mv (v := .tup _) (lr _)) ?_
 refine xtr rfl (lr _) rfl ?_
 refine xtr rfl (lr _) rfl ?_
 refine ass rfl (lr _) ?_
 refine asr (lr _) rfl ?_
 refine sq_nil (aw_seq (aw_region ?_))
 refine sq_ev rfl (ev_load_agg (lr _) rfl ty27 rfl) ?_
 refine mvs rfl (lr _) ?_
 refine sq_ev rfl (ev_call en81 (lr _) (ralone_pure p a b c) ⟨lr _, lr _, trivial⟩) ?_
 refine mvs rfl (lr _) ?_
 refine sq_ev rfl (ev_call en55 (lr _) (alone_canv hs hl hk cv hc hr hfi) ⟨lr _, lr _, trivial⟩) ?_
 refine sq_ev rfl (ev_mv (v := .tup _) (lr _)) ?_
 refine xtr rfl (lr _) rfl ?_
 refine xtr rfl (lr _) rfl ?_
 refine asr (lr _) rfl ?_
 refine asr (lr _) rfl ?_
 refine sq_nil (aw_seq (aw_region ?_))
 refine sq_ev rfl (ev_load_agg (lr _) rfl ty27 rfl) ?_
 refine mvs rfl (lr _) ?_
 refine sq_ev rfl (ev_call en81 (lr _) (ralone_pure p a b c) ⟨lr _, lr _, trivial⟩) ?_
 refine sq_ev rfl (ev_call en38 (lr _) (alone_val (v := true) hs hk hr hmi) ⟨lr _, trivial⟩) ?_
 refine sq_ev rfl (ev_mv (v := .tup _) (lr _)) ?_
 refine xtr rfl (lr _) rfl ?_
 refine xtr rfl (lr _) rfl ?_
 refine asr (lr _) rfl ?_
 refine asr (lr _) rfl ?_
 refine sq_nil (aw_seq (aw_seq (aw_region ?_)))
 refine mvr (lr _) rfl ?_
 refine sq_ev rfl (ev_neq (lr _) (lr _)) ?_
 refine mvr (lr _) rfl ?_
 refine ymr rfl rfl (lr _) rfl (lr _) ?_
 refine sq_yes rfl rfl (lr _) rfl (ev_neq (lr _) (lr _)) ?_
 refine ymr rfl rfl (lr _) rfl (lr _) ?_
 refine ymr rfl rfl (lr _) rfl (lr _) ?_
 refine sq_yes rfl rfl (lr _) rfl (ev_neq (lr _) (lr _)) ?_
 refine sq_yes rfl rfl (lr _) rfl (ev_pickT (v := .raw _) (lr _) (lr _)) ?_
 refine pf rfl (lr _) (lr _) ?_
 refine mvr (lr _) rfl ?_
 refine ymr rfl rfl (lr _) rfl (lr _) ?_
 refine sq_yes rfl rfl (lr _) rfl (ev_neq (lr _) (lr _)) ?_
 refine ymr rfl rfl (lr _) rfl (lr _) ?_
 refine sq_no rfl rfl (lr _) rfl rfl ?_
 refine sq_no rfl rfl (lr _) rfl rfl ?_
 refine sq_yes rfl rfl (lr _) rfl (ev_pickF (v := .raw _) (lr _) (lr _)) ?_
 refine pf rfl (lr _) (lr _) ?_
 refine mvr (lr _) rfl ?_
 refine ymr rfl rfl (lr _) rfl (lr _) ?_
 refine sq_yes rfl rfl (lr _) rfl (ev_neq (lr _) (lr _)) ?_
 refine pf rfl (lr _) (lr _) ?_
 refine mvr (lr _) rfl ?_
 refine ymr rfl rfl (lr _) rfl (lr _) ?_
 refine sq_yes rfl rfl (lr _) rfl (ev_not (lr _)) ?_
 refine pf rfl (lr _) (lr _) ?_
 refine mvr (lr _) rfl ?_
 refine ymr rfl rfl (lr _) rfl (lr _) ?_
 refine ymr rfl rfl (lr _) rfl (lr _) ?_
 refine sq_no rfl rfl (lr _) rfl rfl ?_
 refine sq_no rfl rfl (lr _) rfl rfl ?_
 refine sq_yes rfl rfl (lr _) rfl (ev_pickF (v := .raw _) (lr _) (lr _)) ?_
 refine pf rfl (lr _) (lr _) ?_
 refine mvr (lr _) rfl ?_
 refine ymr rfl rfl (lr _) rfl (lr _) ?_
 refine ymr rfl rfl (lr _) rfl (lr _) ?_
 refine ymr rfl rfl (lr _) rfl (lr _) ?_
 refine sq_yes rfl rfl (lr _) rfl (ev_not (lr _)) ?_
 refine sq_yes rfl rfl (lr _) rfl (ev_pickT (v := .raw _) (lr _) (lr _)) ?_
 refine pf rfl (lr _) (lr _) ?_
 refine mvr (lr _) rfl ?_
 refine ymr rfl rfl (lr _) rfl (lr _) ?_
 refine ymr rfl rfl (lr _) rfl (lr _) ?_
 refine sq_no rfl rfl (lr _) rfl rfl ?_
 refine sq_no rfl rfl (lr _) rfl rfl ?_
 refine sq_yes rfl rfl (lr _) rfl (ev_pickF (v := .raw _) (lr _) (lr _)) ?_
 refine pf rfl (lr _) (lr _) ?_
 refine mvr (lr _) rfl ?_
 refine ymr rfl rfl (lr _) rfl (lr _) ?_
 refine sq_yes rfl rfl (lr _) rfl (ev_eql (lr _) (lr _)) ?_
 refine ymr rfl rfl (lr _) rfl (lr _) ?_
 refine sq_no rfl rfl (lr _) rfl rfl ?_
 refine sq_no rfl rfl (lr _) rfl rfl ?_
 refine sq_yes rfl rfl (lr _) rfl (ev_pickF (v := .raw _) (lr _) (lr _)) ?_
 refine pf rfl (lr _) (lr _) ?_
 refine mvr (lr _) rfl ?_
 refine ymr rfl rfl (lr _) rfl (lr _) ?_
 refine sq_yes rfl rfl (lr _) rfl (ev_eql (lr _) (lr _)) ?_
 refine ymr rfl rfl (lr _) rfl (lr _) ?_
 refine sq_no rfl rfl (lr _) rfl rfl ?_
 refine sq_no rfl rfl (lr _) rfl rfl ?_
 refine sq_yes rfl rfl (lr _) rfl (ev_pickF (v := .raw _) (lr _) (lr _)) ?_
 refine pf rfl (lr _) (lr _) ?_
 refine sq_nil ?_
 refine aw_false (lr _) ?_
 refine aw_skip (aw_seq (aw_seq (aw_region ?_)))
 refine mvr (lr _) rfl ?_
 refine sq_ev rfl (ev_eql (lr _) (lr _)) ?_
 refine sq_nil ?_
 refine aw_false (lr _) ?_
 refine aw_skip (aw_seq (aw_seq (aw_region ?_)))
 refine mvr (lr _) rfl ?_
 refine sq_ev rfl (ev_neq (lr _) (lr _)) ?_
 refine sq_nil ?_
 refine aw_false (lr _) ?_
 refine aw_skip (aw_seq (aw_seq (aw_region ?_)))
 refine sq_ev rfl (ev_load_agg (lr _) rfl ty27 rfl) ?_
 refine mvs rfl (lr _) ?_
 refine sq_ev rfl (ev_call en80 (lr _) (hours_val hx) ⟨lr _, lr _, trivial⟩) ?_
 refine sq_ev rfl (ev_not (lr _)) ?_
 refine mvr (lr _) rfl ?_
 refine ymr rfl rfl (lr _) rfl (lr _) ?_
 refine sq_yes rfl rfl (lr _) rfl (ev_not (lr _)) ?_
 refine ymr rfl rfl (lr _) rfl (lr _) ?_
 refine sq_no rfl rfl (lr _) rfl rfl ?_
 refine sq_no rfl rfl (lr _) rfl rfl ?_
 refine sq_no rfl rfl (lr _) rfl rfl ?_
 refine sq_yes rfl rfl (lr _) rfl (ev_pickF (v := .raw _) (lr _) (lr _)) ?_
 refine pf rfl (lr _) (lr _) ?_
 refine sq_nil ?_
 refine aw_false (lr _) ?_
 refine aw_skip (aw_seq (aw_region ?_))
 refine sq_ev rfl (ev_load_agg (lr _) rfl ty27 rfl) ?_
 refine mvs rfl (lr _) ?_
 refine sq_ev rfl (ev_call en81 (lr _) (ralone_pure p x y z) ⟨lr _, lr _, trivial⟩) ?_
 refine sq_ev rfl (ev_call en38 (lr _) (alone_val (v := false) hs hk hx hxm) ⟨lr _, trivial⟩) ?_
 refine sq_ev rfl (ev_mv (v := .tup _) (lr _)) ?_
 refine xtr rfl (lr _) rfl ?_
 refine xtr rfl (lr _) rfl ?_
 refine asr (lr _) rfl ?_
 refine asr (lr _) rfl ?_
 refine sq_nil (aw_seq (aw_region ?_))
 refine mvr (lr _) rfl ?_
 refine mvr (lr _) rfl ?_
 refine ymr rfl rfl (lr _) rfl (lr _) ?_
 refine sq_yes rfl rfl (lr _) rfl (ev_not (lr _)) ?_
 refine sq_ev rfl (ev_pickT (v := .raw _) (lr _) (lr _)) ?_
 refine mvr (lr _) rfl ?_
 refine sq_yes rfl rfl (lr _) rfl (ev_call en21 (lr _) (known_pure) trivial) ?_
 refine sq_ev rfl (ev_pickT (v := .raw _) (lr _) (lr _)) ?_
 refine asr (lr _) rfl ?_
 refine sq_nil (aw_ret ?_)
 exact retQ_pure (v := .raw _) rfl rfl (lr _)
set_option maxHeartbeats 8000000 in
set_option maxRecDepth 10000 in
theorem law19_yFT (p : Pl) (l : List Nat) (a b c : Int) (hs : p.scenes.length ≤ 12) (hl : l.length ≤ 12) (hk : PlOK p = true) (hc : (Ris p (up l) && isCh p (up l)) = true) (gp : GP p) (wp : WP p) (cv : CV p l) (hr : hrIn p a b c = true) (hsu : sureP p l = false) (hfi : fitsP p l [a, b, c] = true) (hmi : missH p [a, b, c] = false) (s : List Nat) (ha : surest p = some s) (hss : sureP p s = true) (hsl : s.length ≤ 12) (hsc : (Ris p (up s) && isCh p (up s)) = true) (hm : missed p = none) : APure Tryz.prog 19 [plan p, nats l, ints [a, b, c]] (B true) := by
 refine apure_of (rs := [.tmp 6]) Tryz.func19 rfl rfl (Nat.le_of_ble_eq_true rfl) (by simp [AV.pureL, AV.pureB, AV.pureE, pureE_map]) (rfl) fun e0 he0 => ?_
 refine aw_seq (aw_region ?_)
 refine sq_box rfl (lr _) rfl ?_
 refine asr (lr _) rfl ?_
 refine sq_nil (aw_seq (aw_seq (aw_region ?_)))
 refine sq_ev rfl (ev_load_agg (lr _) rfl ty27 rfl) ?_
 refine sq_ev rfl (ev_call en20 (lr _) (short_yes hs) ⟨lr _, trivial⟩) ?_
 refine sq_ev rfl (ev_not (lr _)) ?_
 refine mvr (lr _) rfl ?_
 refine ysl rfl rfl (lr _) rfl (lr _) ?_
 refine sq_yes rfl rfl (lr _) rfl (ev_call en45 (lr _) (slim_yesN hl) ⟨lr _, trivial⟩) ?_
 refine sq_yes rfl rfl (lr _) rfl (ev_not (lr _)) ?_
 refine pf rfl (lr _) (lr _) ?_
 refine mvr (lr _) rfl ?_
 refine sq_yes rfl rfl (lr _) rfl (ev_load_agg (lr _) rfl ty27 rfl) ?_
 refine sq_yes rfl rfl (lr _) rfl (ev_call en24 (lr _) (plan_yes hs hk) ⟨lr _, trivial⟩) ?_
 refine sq_yes rfl rfl (lr _) rfl (ev_not (lr _)) ?_
 refine pf rfl (lr _) (lr _) ?_
 refine mvr (lr _) rfl ?_
 refine sq_yes rfl rfl (lr _) rfl (ev_load_agg (lr _) rfl ty27 rfl) ?_
 refine ysl rfl rfl (lr _) rfl (lr _) ?_
 refine sq_yes rfl rfl (lr _) rfl (ev_call en47 (lr _) (cho_yesN hs hl hc) ⟨lr _, lr _, trivial⟩) ?_
 refine sq_yes rfl rfl (lr _) rfl (ev_not (lr _)) ?_
 refine pf rfl (lr _) (lr _) ?_
 refine mvr (lr _) rfl ?_
 refine ysl rfl rfl (lr _) rfl (lr _) ?_
 refine sq_yes rfl rfl (lr _) rfl (ev_len_map sl34 (lr _)) ?_
 refine sq_yes rfl rfl (lr _) rfl (ev_neq (lr _) (lr _)) ?_
 refine pf rfl (lr _) (lr _) ?_
 refine mvr (lr _) rfl ?_
 refine sq_yes rfl rfl (lr _) rfl (ev_load_agg (lr _) rfl ty27 rfl) ?_
 refine ysl rfl rfl (lr _) rfl (lr _) ?_
 refine sq_yes rfl rfl (lr _) rfl (ev_call en80 (lr _) (hours_val hr) ⟨lr _, lr _, trivial⟩) ?_
 refine sq_yes rfl rfl (lr _) rfl (ev_not (lr _)) ?_
 refine pf rfl (lr _) (lr _) ?_
 refine sq_nil ?_
 refine aw_false (lr _) ?_
 refine aw_skip (aw_seq (aw_region ?_))
 refine sq_ev rfl (ev_load_agg (lr _) rfl ty27 rfl) ?_
 refine mvs rfl (lr _) ?_
 refine sq_ev rfl (ev_call en64 (lr _) (sure_val hs hl hk hc hsu) ⟨lr _, lr _, trivial⟩) ?_
 refine sq_ev rfl (ev_mv (v := .tup _) (lr _)) ?_
 refine xtr rfl (lr _) rfl ?_
 refine xtr rfl (lr _) rfl ?_
 refine asr (lr _) rfl ?_
 refine asr (lr _) rfl ?_
 refine sq_nil (aw_seq (aw_region ?_))
 refine sq_ev rfl (ev_load_agg (lr _) rfl ty27 rfl) ?_
 refine sq_ev rfl (ev_call en65 (lr _) (su_yes hs hk ha) ⟨lr _, trivial⟩) ?_
 refine sq_ev rfl (ev_mv (v := .tup _) (lr _)) ?_
 refine xtr rfl (lr _) rfl ?_
 refine xtr rfl (lr _) rfl ?_
 refine ass rfl (lr _) ?_
 refine asr (lr _) rfl ?_
 refine sq_nil (aw_seq (aw_region ?_))
 refine sq_ev rfl (ev_load_agg (lr _) rfl ty27 rfl) ?_
 refine sq_ev rfl (ev_call en66 (lr _) (mi_no hs hk hm) ⟨lr _, trivial⟩) ?_
 refine sq_ev rfl (ev_mv (v := .tup _) (lr _)) ?_
 refine xtr rfl (lr _) rfl ?_
 refine xtr rfl (lr _) rfl ?_
 refine ass rfl (lr _) ?_
 refine asr (lr _) rfl ?_
 refine sq_nil (aw_seq (aw_region ?_))
 refine sq_ev rfl (ev_load_agg (lr _) rfl ty27 rfl) ?_
 refine mvs rfl (lr _) ?_
 refine sq_ev rfl (ev_call en81 (lr _) (ralone_pure p a b c) ⟨lr _, lr _, trivial⟩) ?_
 refine mvs rfl (lr _) ?_
 refine sq_ev rfl (ev_call en55 (lr _) (alone_canv hs hl hk cv hc hr hfi) ⟨lr _, lr _, trivial⟩) ?_
 refine sq_ev rfl (ev_mv (v := .tup _) (lr _)) ?_
 refine xtr rfl (lr _) rfl ?_
 refine xtr rfl (lr _) rfl ?_
 refine asr (lr _) rfl ?_
 refine asr (lr _) rfl ?_
 refine sq_nil (aw_seq (aw_region ?_))
 refine sq_ev rfl (ev_load_agg (lr _) rfl ty27 rfl) ?_
 refine mvs rfl (lr _) ?_
 refine sq_ev rfl (ev_call en81 (lr _) (ralone_pure p a b c) ⟨lr _, lr _, trivial⟩) ?_
 refine sq_ev rfl (ev_call en38 (lr _) (alone_val (v := true) hs hk hr hmi) ⟨lr _, trivial⟩) ?_
 refine sq_ev rfl (ev_mv (v := .tup _) (lr _)) ?_
 refine xtr rfl (lr _) rfl ?_
 refine xtr rfl (lr _) rfl ?_
 refine asr (lr _) rfl ?_
 refine asr (lr _) rfl ?_
 refine sq_nil (aw_seq (aw_seq (aw_region ?_)))
 refine mvr (lr _) rfl ?_
 refine sq_ev rfl (ev_neq (lr _) (lr _)) ?_
 refine mvr (lr _) rfl ?_
 refine ymr rfl rfl (lr _) rfl (lr _) ?_
 refine sq_yes rfl rfl (lr _) rfl (ev_neq (lr _) (lr _)) ?_
 refine ymr rfl rfl (lr _) rfl (lr _) ?_
 refine sq_no rfl rfl (lr _) rfl rfl ?_
 refine sq_no rfl rfl (lr _) rfl rfl ?_
 refine sq_yes rfl rfl (lr _) rfl (ev_pickF (v := .raw _) (lr _) (lr _)) ?_
 refine pf rfl (lr _) (lr _) ?_
 refine mvr (lr _) rfl ?_
 refine ymr rfl rfl (lr _) rfl (lr _) ?_
 refine sq_yes rfl rfl (lr _) rfl (ev_neq (lr _) (lr _)) ?_
 refine ymr rfl rfl (lr _) rfl (lr _) ?_
 refine ymr rfl rfl (lr _) rfl (lr _) ?_
 refine sq_yes rfl rfl (lr _) rfl (ev_neq (lr _) (lr _)) ?_
 refine sq_yes rfl rfl (lr _) rfl (ev_pickT (v := .raw _) (lr _) (lr _)) ?_
 refine pf rfl (lr _) (lr _) ?_
 refine mvr (lr _) rfl ?_
 refine ymr rfl rfl (lr _) rfl (lr _) ?_
 refine sq_yes rfl rfl (lr _) rfl (ev_neq (lr _) (lr _)) ?_
 refine pf rfl (lr _) (lr _) ?_
 refine mvr (lr _) rfl ?_
 refine ymr rfl rfl (lr _) rfl (lr _) ?_
 refine sq_yes rfl rfl (lr _) rfl (ev_not (lr _)) ?_
 refine pf rfl (lr _) (lr _) ?_
 refine mvr (lr _) rfl ?_
 refine ymr rfl rfl (lr _) rfl (lr _) ?_
 refine ymr rfl rfl (lr _) rfl (lr _) ?_
 refine sq_no rfl rfl (lr _) rfl rfl ?_
 refine sq_no rfl rfl (lr _) rfl rfl ?_
 refine sq_yes rfl rfl (lr _) rfl (ev_pickF (v := .raw _) (lr _) (lr _)) ?_
 refine pf rfl (lr _) (lr _) ?_
 refine mvr (lr _) rfl ?_
 refine ymr rfl rfl (lr _) rfl (lr _) ?_
 refine ymr rfl rfl (lr _) rfl (lr _) ?_
 refine ymr rfl rfl (lr _) rfl (lr _) ?_
 refine sq_yes rfl rfl (lr _) rfl (ev_not (lr _)) ?_
 refine sq_yes rfl rfl (lr _) rfl (ev_pickT (v := .raw _) (lr _) (lr _)) ?_
 refine pf rfl (lr _) (lr _) ?_
 refine mvr (lr _) rfl ?_
 refine ymr rfl rfl (lr _) rfl (lr _) ?_
 refine ymr rfl rfl (lr _) rfl (lr _) ?_
 refine sq_no rfl rfl (lr _) rfl rfl ?_
 refine sq_no rfl rfl (lr _) rfl rfl ?_
 refine sq_yes rfl rfl (lr _) rfl (ev_pickF (v := .raw _) (lr _) (lr _)) ?_
 refine pf rfl (lr _) (lr _) ?_
 refine mvr (lr _) rfl ?_
 refine ymr rfl rfl (lr _) rfl (lr _) ?_
 refine sq_yes rfl rfl (lr _) rfl (ev_eql (lr _) (lr _)) ?_
 refine ymr rfl rfl (lr _) rfl (lr _) ?_
 refine ymr rfl rfl (lr _) rfl (lr _) ?_
 refine sq_yes rfl rfl (lr _) rfl (ev_neq (lr _) (lr _)) ?_
 refine sq_yes rfl rfl (lr _) rfl (ev_pickT (v := .raw _) (lr _) (lr _)) ?_
 refine pf rfl (lr _) (lr _) ?_
 refine mvr (lr _) rfl ?_
 refine ymr rfl rfl (lr _) rfl (lr _) ?_
 refine sq_yes rfl rfl (lr _) rfl (ev_eql (lr _) (lr _)) ?_
 refine ymr rfl rfl (lr _) rfl (lr _) ?_
 refine ymr rfl rfl (lr _) rfl (lr _) ?_
 refine sq_yes rfl rfl (lr _) rfl (ev_not (lr _)) ?_
 refine sq_yes rfl rfl (lr _) rfl (ev_pickT (v := .raw _) (lr _) (lr _)) ?_
 refine pf rfl (lr _) (lr _) ?_
 refine sq_nil ?_
 refine aw_false (lr _) ?_
 refine aw_skip (aw_seq (aw_seq (aw_region ?_)))
 refine mvr (lr _) rfl ?_
 refine sq_ev rfl (ev_eql (lr _) (lr _)) ?_
 refine sq_nil ?_
 refine aw_true (lr _) ?_
 refine aw_seq (aw_region ?_)
 refine sq_ev rfl (ev_load_agg (lr _) rfl ty27 rfl) ?_
 refine mvs rfl (lr _) ?_
 refine sq_ev rfl (ev_call en64 (lr _) (sure_val hs hsl hk hsc hss) ⟨lr _, lr _, trivial⟩) ?_
 refine sq_ev rfl (ev_mv (v := .tup _) (lr _)) ?_
 refine xtr rfl (lr _) rfl ?_
 refine xtr rfl (lr _) rfl ?_
 refine asr (lr _) rfl ?_
 refine asr (lr _) rfl ?_
 refine sq_nil (aw_seq (aw_region ?_))
 refine sq_ev rfl (ev_load_agg (lr _) rfl ty27 rfl) ?_
 refine mvs rfl (lr _) ?_
 refine sq_ev rfl (ev_call en47 (lr _) (cho_yesN hs hsl hsc) ⟨lr _, lr _, trivial⟩) ?_
 refine sq_ev rfl (ev_not (lr _)) ?_
 refine mvr (lr _) rfl ?_
 refine ymr rfl rfl (lr _) rfl (lr _) ?_
 refine sq_yes rfl rfl (lr _) rfl (ev_neq (lr _) (lr _)) ?_
 refine pf rfl (lr _) (lr _) ?_
 refine mvr (lr _) rfl ?_
 refine ymr rfl rfl (lr _) rfl (lr _) ?_
 refine sq_yes rfl rfl (lr _) rfl (ev_not (lr _)) ?_
 refine pf rfl (lr _) (lr _) ?_
 refine mvr (lr _) rfl ?_
 refine ymr rfl rfl (lr _) rfl (lr _) ?_
 refine ymr rfl rfl (lr _) rfl (lr _) ?_
 refine sq_no rfl rfl (lr _) rfl rfl ?_
 refine sq_no rfl rfl (lr _) rfl rfl ?_
 refine sq_no rfl rfl (lr _) rfl rfl ?_
 refine sq_yes rfl rfl (lr _) rfl (ev_pickF (v := .raw _) (lr _) (lr _)) ?_
 refine pf rfl (lr _) (lr _) ?_
 refine sq_nil ?_
 refine aw_false (lr _) ?_
 refine aw_skip (aw_seq (aw_seq (aw_region ?_)))
 refine mvr (lr _) rfl ?_
 refine sq_ev rfl (ev_neq (lr _) (lr _)) ?_
 refine sq_nil ?_
 refine aw_true (lr _) ?_
 refine aw_seq (aw_region ?_)
 refine sq_ev rfl (ev_call en21 (lr _) (known_pure) trivial) ?_
 refine asr (lr _) rfl ?_
 refine sq_nil (aw_ret ?_)
 exact retQ_pure (v := .raw _) rfl rfl (lr _)
set_option maxHeartbeats 8000000 in
set_option maxRecDepth 10000 in
theorem law19_nFF (p : Pl) (l : List Nat) (a b c : Int) (hs : p.scenes.length ≤ 12) (hl : l.length ≤ 12) (hk : PlOK p = true) (hc : (Ris p (up l) && isCh p (up l)) = true) (gp : GP p) (wp : WP p) (cv : CV p l) (hr : hrIn p a b c = true) (hsu : sureP p l = false) (hfi : fitsP p l [a, b, c] = false) (hmi : missH p [a, b, c] = false) (ha : surest p = none) (hm : missed p = none) : APure Tryz.prog 19 [plan p, nats l, ints [a, b, c]] (B true) := by
 refine apure_of (rs := [.tmp 6]) Tryz.func19 rfl rfl (Nat.le_of_ble_eq_true rfl) (by simp [AV.pureL, AV.pureB, AV.pureE, pureE_map]) (rfl) fun e0 he0 => ?_
 refine aw_seq (aw_region ?_)
 refine sq_box rfl (lr _) rfl ?_
 refine asr (lr _) rfl ?_
 refine sq_nil (aw_seq (aw_seq (aw_region ?_)))
 refine sq_ev rfl (ev_load_agg (lr _) rfl ty27 rfl) ?_
 refine sq_ev rfl (ev_call en20 (lr _) (short_yes hs) ⟨lr _, trivial⟩) ?_
 refine sq_ev rfl (ev_not (lr _)) ?_
 refine mvr (lr _) rfl ?_
 refine ysl rfl rfl (lr _) rfl (lr _) ?_
 refine sq_yes rfl rfl (lr _) rfl (ev_call en45 (lr _) (slim_yesN hl) ⟨lr _, trivial⟩) ?_
 refine sq_yes rfl rfl (lr _) rfl (ev_not (lr _)) ?_
 refine pf rfl (lr _) (lr _) ?_
 refine mvr (lr _) rfl ?_
 refine sq_yes rfl rfl (lr _) rfl (ev_load_agg (lr _) rfl ty27 rfl) ?_
 refine sq_yes rfl rfl (lr _) rfl (ev_call en24 (lr _) (plan_yes hs hk) ⟨lr _, trivial⟩) ?_
 refine sq_yes rfl rfl (lr _) rfl (ev_not (lr _)) ?_
 refine pf rfl (lr _) (lr _) ?_
 refine mvr (lr _) rfl ?_
 refine sq_yes rfl rfl (lr _) rfl (ev_load_agg (lr _) rfl ty27 rfl) ?_
 refine ysl rfl rfl (lr _) rfl (lr _) ?_
 refine sq_yes rfl rfl (lr _) rfl (ev_call en47 (lr _) (cho_yesN hs hl hc) ⟨lr _, lr _, trivial⟩) ?_
 refine sq_yes rfl rfl (lr _) rfl (ev_not (lr _)) ?_
 refine pf rfl (lr _) (lr _) ?_
 refine mvr (lr _) rfl ?_
 refine ysl rfl rfl (lr _) rfl (lr _) ?_
 refine sq_yes rfl rfl (lr _) rfl (ev_len_map sl34 (lr _)) ?_
 refine sq_yes rfl rfl (lr _) rfl (ev_neq (lr _) (lr _)) ?_
 refine pf rfl (lr _) (lr _) ?_
 refine mvr (lr _) rfl ?_
 refine sq_yes rfl rfl (lr _) rfl (ev_load_agg (lr _) rfl ty27 rfl) ?_
 refine ysl rfl rfl (lr _) rfl (lr _) ?_
 refine sq_yes rfl rfl (lr _) rfl (ev_call en80 (lr _) (hours_val hr) ⟨lr _, lr _, trivial⟩) ?_
 refine sq_yes rfl rfl (lr _) rfl (ev_not (lr _)) ?_
 refine pf rfl (lr _) (lr _) ?_
 refine sq_nil ?_
 refine aw_false (lr _) ?_
 refine aw_skip (aw_seq (aw_region ?_))
 refine sq_ev rfl (ev_load_agg (lr _) rfl ty27 rfl) ?_
 refine mvs rfl (lr _) ?_
 refine sq_ev rfl (ev_call en64 (lr _) (sure_val hs hl hk hc hsu) ⟨lr _, lr _, trivial⟩) ?_
 refine sq_ev rfl (ev_mv (v := .tup _) (lr _)) ?_
 refine xtr rfl (lr _) rfl ?_
 refine xtr rfl (lr _) rfl ?_
 refine asr (lr _) rfl ?_
 refine asr (lr _) rfl ?_
 refine sq_nil (aw_seq (aw_region ?_))
 refine sq_ev rfl (ev_load_agg (lr _) rfl ty27 rfl) ?_
 refine sq_ev rfl (ev_call en65 (lr _) (su_no hs hk ha) ⟨lr _, trivial⟩) ?_
 refine sq_ev rfl (ev_mv (v := .tup _) (lr _)) ?_
 refine xtr rfl (lr _) rfl ?_
 refine xtr rfl (lr _) rfl ?_
 refine ass rfl (lr _) ?_
 refine asr (lr _) rfl ?_
 refine sq_nil (aw_seq (aw_region ?_))
 refine sq_ev rfl (ev_load_agg (lr _) rfl ty27 rfl) ?_
 refine sq_ev rfl (ev_call en66 (lr _) (mi_no hs hk hm) ⟨lr _, trivial⟩) ?_
 refine sq_ev rfl (ev_mv (v := .tup _) (lr _)) ?_
 refine xtr rfl (lr _) rfl ?_
 refine xtr rfl (lr _) rfl ?_
 refine ass rfl (lr _) ?_
 refine asr (lr _) rfl ?_
 refine sq_nil (aw_seq (aw_region ?_))
 refine sq_ev rfl (ev_load_agg (lr _) rfl ty27 rfl) ?_
 refine mvs rfl (lr _) ?_
 refine sq_ev rfl (ev_call en81 (lr _) (ralone_pure p a b c) ⟨lr _, lr _, trivial⟩) ?_
 refine mvs rfl (lr _) ?_
 refine sq_ev rfl (ev_call en55 (lr _) (alone_canv hs hl hk cv hc hr hfi) ⟨lr _, lr _, trivial⟩) ?_
 refine sq_ev rfl (ev_mv (v := .tup _) (lr _)) ?_
 refine xtr rfl (lr _) rfl ?_
 refine xtr rfl (lr _) rfl ?_
 refine asr (lr _) rfl ?_
 refine asr (lr _) rfl ?_
 refine sq_nil (aw_seq (aw_region ?_))
 refine sq_ev rfl (ev_load_agg (lr _) rfl ty27 rfl) ?_
 refine mvs rfl (lr _) ?_
 refine sq_ev rfl (ev_call en81 (lr _) (ralone_pure p a b c) ⟨lr _, lr _, trivial⟩) ?_
 refine sq_ev rfl (ev_call en38 (lr _) (alone_val (v := true) hs hk hr hmi) ⟨lr _, trivial⟩) ?_
 refine sq_ev rfl (ev_mv (v := .tup _) (lr _)) ?_
 refine xtr rfl (lr _) rfl ?_
 refine xtr rfl (lr _) rfl ?_
 refine asr (lr _) rfl ?_
 refine asr (lr _) rfl ?_
 refine sq_nil (aw_seq (aw_seq (aw_region ?_)))
 refine mvr (lr _) rfl ?_
 refine sq_ev rfl (ev_neq (lr _) (lr _)) ?_
 refine mvr (lr _) rfl ?_
 refine ymr rfl rfl (lr _) rfl (lr _) ?_
 refine sq_yes rfl rfl (lr _) rfl (ev_neq (lr _) (lr _)) ?_
 refine ymr rfl rfl (lr _) rfl (lr _) ?_
 refine ymr rfl rfl (lr _) rfl (lr _) ?_
 refine sq_yes rfl rfl (lr _) rfl (ev_neq (lr _) (lr _)) ?_
 refine sq_yes rfl rfl (lr _) rfl (ev_pickT (v := .raw _) (lr _) (lr _)) ?_
 refine pf rfl (lr _) (lr _) ?_
 refine mvr (lr _) rfl ?_
 refine ymr rfl rfl (lr _) rfl (lr _) ?_
 refine sq_yes rfl rfl (lr _) rfl (ev_neq (lr _) (lr _)) ?_
 refine ymr rfl rfl (lr _) rfl (lr _) ?_
 refine ymr rfl rfl (lr _) rfl (lr _) ?_
 refine sq_yes rfl rfl (lr _) rfl (ev_neq (lr _) (lr _)) ?_
 refine sq_yes rfl rfl (lr _) rfl (ev_pickT (v := .raw _) (lr _) (lr _)) ?_
 refine pf rfl (lr _) (lr _) ?_
 refine mvr (lr _) rfl ?_
 refine ymr rfl rfl (lr _) rfl (lr _) ?_
 refine sq_yes rfl rfl (lr _) rfl (ev_neq (lr _) (lr _)) ?_
 refine pf rfl (lr _) (lr _) ?_
 refine mvr (lr _) rfl ?_
 refine ymr rfl rfl (lr _) rfl (lr _) ?_
 refine sq_yes rfl rfl (lr _) rfl (ev_not (lr _)) ?_
 refine pf rfl (lr _) (lr _) ?_
 refine mvr (lr _) rfl ?_
 refine ymr rfl rfl (lr _) rfl (lr _) ?_
 refine ymr rfl rfl (lr _) rfl (lr _) ?_
 refine sq_no rfl rfl (lr _) rfl rfl ?_
 refine sq_no rfl rfl (lr _) rfl rfl ?_
 refine sq_yes rfl rfl (lr _) rfl (ev_pickF (v := .raw _) (lr _) (lr _)) ?_
 refine pf rfl (lr _) (lr _) ?_
 refine mvr (lr _) rfl ?_
 refine ymr rfl rfl (lr _) rfl (lr _) ?_
 refine ymr rfl rfl (lr _) rfl (lr _) ?_
 refine sq_no rfl rfl (lr _) rfl rfl ?_
 refine sq_no rfl rfl (lr _) rfl rfl ?_
 refine sq_yes rfl rfl (lr _) rfl (ev_pickF (v := .raw _) (lr _) (lr _)) ?_
 refine pf rfl (lr _) (lr _) ?_
 refine mvr (lr _) rfl ?_
 refine ymr rfl rfl (lr _) rfl (lr _) ?_
 refine ymr rfl rfl (lr _) rfl (lr _) ?_
 refine sq_no rfl rfl (lr _) rfl rfl ?_
 refine sq_no rfl rfl (lr _) rfl rfl ?_
 refine sq_yes rfl rfl (lr _) rfl (ev_pickF (v := .raw _) (lr _) (lr _)) ?_
 refine pf rfl (lr _) (lr _) ?_
 refine mvr (lr _) rfl ?_
 refine ymr rfl rfl (lr _) rfl (lr _) ?_
 refine sq_yes rfl rfl (lr _) rfl (ev_eql (lr _) (lr _)) ?_
 refine ymr rfl rfl (lr _) rfl (lr _) ?_
 refine sq_no rfl rfl (lr _) rfl rfl ?_
 refine sq_no rfl rfl (lr _) rfl rfl ?_
 refine sq_yes rfl rfl (lr _) rfl (ev_pickF (v := .raw _) (lr _) (lr _)) ?_
 refine pf rfl (lr _) (lr _) ?_
 refine mvr (lr _) rfl ?_
 refine ymr rfl rfl (lr _) rfl (lr _) ?_
 refine sq_yes rfl rfl (lr _) rfl (ev_eql (lr _) (lr _)) ?_
 refine ymr rfl rfl (lr _) rfl (lr _) ?_
 refine ymr rfl rfl (lr _) rfl (lr _) ?_
 refine sq_yes rfl rfl (lr _) rfl (ev_not (lr _)) ?_
 refine sq_yes rfl rfl (lr _) rfl (ev_pickT (v := .raw _) (lr _) (lr _)) ?_
 refine pf rfl (lr _) (lr _) ?_
 refine sq_nil ?_
 refine aw_false (lr _) ?_
 refine aw_skip (aw_seq (aw_seq (aw_region ?_)))
 refine mvr (lr _) rfl ?_
 refine sq_ev rfl (ev_eql (lr _) (lr _)) ?_
 refine sq_nil ?_
 refine aw_false (lr _) ?_
 refine aw_skip (aw_seq (aw_seq (aw_region ?_)))
 refine mvr (lr _) rfl ?_
 refine sq_ev rfl (ev_neq (lr _) (lr _)) ?_
 refine sq_nil ?_
 refine aw_true (lr _) ?_
 refine aw_seq (aw_region ?_)
 refine sq_ev rfl (ev_call en21 (lr _) (known_pure) trivial) ?_
 refine asr (lr _) rfl ?_
 refine sq_nil (aw_ret ?_)
 exact retQ_pure (v := .raw _) rfl rfl (lr _)
set_option maxHeartbeats 8000000 in
set_option maxRecDepth 10000 in
theorem law19_mFT (p : Pl) (l : List Nat) (a b c : Int) (hs : p.scenes.length ≤ 12) (hl : l.length ≤ 12) (hk : PlOK p = true) (hc : (Ris p (up l) && isCh p (up l)) = true) (gp : GP p) (wp : WP p) (cv : CV p l) (hr : hrIn p a b c = true) (hsu : sureP p l = false) (hfi : fitsP p l [a, b, c] = false) (hmi : missH p [a, b, c] = false) (ha : surest p = none) (x y z : Int) (hm : missed p = some [x, y, z]) (hx : hrIn p x y z = true) (hxm : missH p [x, y, z] = true) : APure Tryz.prog 19 [plan p, nats l, ints [a, b, c]] (B true) := by
 refine apure_of (rs := [.tmp 6]) Tryz.func19 rfl rfl (Nat.le_of_ble_eq_true rfl) (by simp [AV.pureL, AV.pureB, AV.pureE, pureE_map]) (rfl) fun e0 he0 => ?_
 refine aw_seq (aw_region ?_)
 refine sq_box rfl (lr _) rfl ?_
 refine asr (lr _) rfl ?_
 refine sq_nil (aw_seq (aw_seq (aw_region ?_)))
 refine sq_ev rfl (ev_load_agg (lr _) rfl ty27 rfl) ?_
 refine sq_ev rfl (ev_call en20 (lr _) (short_yes hs) ⟨lr _, trivial⟩) ?_
 refine sq_ev rfl (ev_not (lr _)) ?_
 refine mvr (lr _) rfl ?_
 refine ysl rfl rfl (lr _) rfl (lr _) ?_
 refine sq_yes rfl rfl (lr _) rfl (ev_call en45 (lr _) (slim_yesN hl) ⟨lr _, trivial⟩) ?_
 refine sq_yes rfl rfl (lr _) rfl (ev_not (lr _)) ?_
 refine pf rfl (lr _) (lr _) ?_
 refine mvr (lr _) rfl ?_
 refine sq_yes rfl rfl (lr _) rfl (ev_load_agg (lr _) rfl ty27 rfl) ?_
 refine sq_yes rfl rfl (lr _) rfl (ev_call en24 (lr _) (plan_yes hs hk) ⟨lr _, trivial⟩) ?_
 refine sq_yes rfl rfl (lr _) rfl (ev_not (lr _)) ?_
 refine pf rfl (lr _) (lr _) ?_
 refine mvr (lr _) rfl ?_
 refine sq_yes rfl rfl (lr _) rfl (ev_load_agg (lr _) rfl ty27 rfl) ?_
 refine ysl rfl rfl (lr _) rfl (lr _) ?_
 refine sq_yes rfl rfl (lr _) rfl (ev_call en47 (lr _) (cho_yesN hs hl hc) ⟨lr _, lr _, trivial⟩) ?_
 refine sq_yes rfl rfl (lr _) rfl (ev_not (lr _)) ?_
 refine pf rfl (lr _) (lr _) ?_
 refine mvr (lr _) rfl ?_
 refine ysl rfl rfl (lr _) rfl (lr _) ?_
 refine sq_yes rfl rfl (lr _) rfl (ev_len_map sl34 (lr _)) ?_
 refine sq_yes rfl rfl (lr _) rfl (ev_neq (lr _) (lr _)) ?_
 refine pf rfl (lr _) (lr _) ?_
 refine mvr (lr _) rfl ?_
 refine sq_yes rfl rfl (lr _) rfl (ev_load_agg (lr _) rfl ty27 rfl) ?_
 refine ysl rfl rfl (lr _) rfl (lr _) ?_
 refine sq_yes rfl rfl (lr _) rfl (ev_call en80 (lr _) (hours_val hr) ⟨lr _, lr _, trivial⟩) ?_
 refine sq_yes rfl rfl (lr _) rfl (ev_not (lr _)) ?_
 refine pf rfl (lr _) (lr _) ?_
 refine sq_nil ?_
 refine aw_false (lr _) ?_
 refine aw_skip (aw_seq (aw_region ?_))
 refine sq_ev rfl (ev_load_agg (lr _) rfl ty27 rfl) ?_
 refine mvs rfl (lr _) ?_
 refine sq_ev rfl (ev_call en64 (lr _) (sure_val hs hl hk hc hsu) ⟨lr _, lr _, trivial⟩) ?_
 refine sq_ev rfl (ev_mv (v := .tup _) (lr _)) ?_
 refine xtr rfl (lr _) rfl ?_
 refine xtr rfl (lr _) rfl ?_
 refine asr (lr _) rfl ?_
 refine asr (lr _) rfl ?_
 refine sq_nil (aw_seq (aw_region ?_))
 refine sq_ev rfl (ev_load_agg (lr _) rfl ty27 rfl) ?_
 refine sq_ev rfl (ev_call en65 (lr _) (su_no hs hk ha) ⟨lr _, trivial⟩) ?_
 refine sq_ev rfl (ev_mv (v := .tup _) (lr _)) ?_
 refine xtr rfl (lr _) rfl ?_
 refine xtr rfl (lr _) rfl ?_
 refine ass rfl (lr _) ?_
 refine asr (lr _) rfl ?_
 refine sq_nil (aw_seq (aw_region ?_))
 refine sq_ev rfl (ev_load_agg (lr _) rfl ty27 rfl) ?_
 refine sq_ev rfl (ev_call en66 (lr _) (mi_yes hs hk hm) ⟨lr _, trivial⟩) ?_
 refine sq_ev rfl (ev_mv (v := .tup _) (lr _)) ?_
 refine xtr rfl (lr _) rfl ?_
 refine xtr rfl (lr _) rfl ?_
 refine ass rfl (lr _) ?_
 refine asr (lr _) rfl ?_
 refine sq_nil (aw_seq (aw_region ?_))
 refine sq_ev rfl (ev_load_agg (lr _) rfl ty27 rfl) ?_
 refine mvs rfl (lr _) ?_
 refine sq_ev rfl (ev_call en81 (lr _) (ralone_pure p a b c) ⟨lr _, lr _, trivial⟩) ?_
 refine mvs rfl (lr _) ?_
 refine sq_ev rfl (ev_call en55 (lr _) (alone_canv hs hl hk cv hc hr hfi) ⟨lr _, lr _, trivial⟩) ?_
 refine sq_ev rfl (ev_mv (v := .tup _) (lr _)) ?_
 refine xtr rfl (lr _) rfl ?_
 refine xtr rfl (lr _) rfl ?_
 refine asr (lr _) rfl ?_
 refine asr (lr _) rfl ?_
 refine sq_nil (aw_seq (aw_region ?_))
 refine sq_ev rfl (ev_load_agg (lr _) rfl ty27 rfl) ?_
 refine mvs rfl (lr _) ?_
 refine sq_ev rfl (ev_call en81 (lr _) (ralone_pure p a b c) ⟨lr _, lr _, trivial⟩) ?_
 refine sq_ev rfl (ev_call en38 (lr _) (alone_val (v := true) hs hk hr hmi) ⟨lr _, trivial⟩) ?_
 refine sq_ev rfl (ev_mv (v := .tup _) (lr _)) ?_
 refine xtr rfl (lr _) rfl ?_
 refine xtr rfl (lr _) rfl ?_
 refine asr (lr _) rfl ?_
 refine asr (lr _) rfl ?_
 refine sq_nil (aw_seq (aw_seq (aw_region ?_)))
 refine mvr (lr _) rfl ?_
 refine sq_ev rfl (ev_neq (lr _) (lr _)) ?_
 refine mvr (lr _) rfl ?_
 refine ymr rfl rfl (lr _) rfl (lr _) ?_
 refine sq_yes rfl rfl (lr _) rfl (ev_neq (lr _) (lr _)) ?_
 refine ymr rfl rfl (lr _) rfl (lr _) ?_
 refine ymr rfl rfl (lr _) rfl (lr _) ?_
 refine sq_yes rfl rfl (lr _) rfl (ev_neq (lr _) (lr _)) ?_
 refine sq_yes rfl rfl (lr _) rfl (ev_pickT (v := .raw _) (lr _) (lr _)) ?_
 refine pf rfl (lr _) (lr _) ?_
 refine mvr (lr _) rfl ?_
 refine ymr rfl rfl (lr _) rfl (lr _) ?_
 refine sq_yes rfl rfl (lr _) rfl (ev_neq (lr _) (lr _)) ?_
 refine ymr rfl rfl (lr _) rfl (lr _) ?_
 refine sq_no rfl rfl (lr _) rfl rfl ?_
 refine sq_no rfl rfl (lr _) rfl rfl ?_
 refine sq_yes rfl rfl (lr _) rfl (ev_pickF (v := .raw _) (lr _) (lr _)) ?_
 refine pf rfl (lr _) (lr _) ?_
 refine mvr (lr _) rfl ?_
 refine ymr rfl rfl (lr _) rfl (lr _) ?_
 refine sq_yes rfl rfl (lr _) rfl (ev_neq (lr _) (lr _)) ?_
 refine pf rfl (lr _) (lr _) ?_
 refine mvr (lr _) rfl ?_
 refine ymr rfl rfl (lr _) rfl (lr _) ?_
 refine sq_yes rfl rfl (lr _) rfl (ev_not (lr _)) ?_
 refine pf rfl (lr _) (lr _) ?_
 refine mvr (lr _) rfl ?_
 refine ymr rfl rfl (lr _) rfl (lr _) ?_
 refine ymr rfl rfl (lr _) rfl (lr _) ?_
 refine sq_no rfl rfl (lr _) rfl rfl ?_
 refine sq_no rfl rfl (lr _) rfl rfl ?_
 refine sq_yes rfl rfl (lr _) rfl (ev_pickF (v := .raw _) (lr _) (lr _)) ?_
 refine pf rfl (lr _) (lr _) ?_
 refine mvr (lr _) rfl ?_
 refine ymr rfl rfl (lr _) rfl (lr _) ?_
 refine ymr rfl rfl (lr _) rfl (lr _) ?_
 refine sq_no rfl rfl (lr _) rfl rfl ?_
 refine sq_no rfl rfl (lr _) rfl rfl ?_
 refine sq_yes rfl rfl (lr _) rfl (ev_pickF (v := .raw _) (lr _) (lr _)) ?_
 refine pf rfl (lr _) (lr _) ?_
 refine mvr (lr _) rfl ?_
 refine ymr rfl rfl (lr _) rfl (lr _) ?_
 refine ymr rfl rfl (lr _) rfl (lr _) ?_
 refine sq_no rfl rfl (lr _) rfl rfl ?_
 refine sq_no rfl rfl (lr _) rfl rfl ?_
 refine sq_yes rfl rfl (lr _) rfl (ev_pickF (v := .raw _) (lr _) (lr _)) ?_
 refine pf rfl (lr _) (lr _) ?_
 refine mvr (lr _) rfl ?_
 refine ymr rfl rfl (lr _) rfl (lr _) ?_
 refine sq_yes rfl rfl (lr _) rfl (ev_eql (lr _) (lr _)) ?_
 refine ymr rfl rfl (lr _) rfl (lr _) ?_
 refine sq_no rfl rfl (lr _) rfl rfl ?_
 refine sq_no rfl rfl (lr _) rfl rfl ?_
 refine sq_yes rfl rfl (lr _) rfl (ev_pickF (v := .raw _) (lr _) (lr _)) ?_
 refine pf rfl (lr _) (lr _) ?_
 refine mvr (lr _) rfl ?_
 refine ymr rfl rfl (lr _) rfl (lr _) ?_
 refine sq_yes rfl rfl (lr _) rfl (ev_eql (lr _) (lr _)) ?_
 refine ymr rfl rfl (lr _) rfl (lr _) ?_
 refine sq_no rfl rfl (lr _) rfl rfl ?_
 refine sq_no rfl rfl (lr _) rfl rfl ?_
 refine sq_yes rfl rfl (lr _) rfl (ev_pickF (v := .raw _) (lr _) (lr _)) ?_
 refine pf rfl (lr _) (lr _) ?_
 refine sq_nil ?_
 refine aw_false (lr _) ?_
 refine aw_skip (aw_seq (aw_seq (aw_region ?_)))
 refine mvr (lr _) rfl ?_
 refine sq_ev rfl (ev_eql (lr _) (lr _)) ?_
 refine sq_nil ?_
 refine aw_false (lr _) ?_
 refine aw_skip (aw_seq (aw_seq (aw_region ?_)))
 refine mvr (lr _) rfl ?_
 refine sq_ev rfl (ev_neq (lr _) (lr _)) ?_
 refine sq_nil ?_
 refine aw_false (lr _) ?_
 refine aw_skip (aw_seq (aw_seq (aw_region ?_)))
 refine sq_ev rfl (ev_load_agg (lr _) rfl ty27 rfl) ?_
 refine mvs rfl (lr _) ?_
 refine sq_ev rfl (ev_call en80 (lr _) (hours_val hx) ⟨lr _, lr _, trivial⟩) ?_
 refine sq_ev rfl (ev_not (lr _)) ?_
 refine mvr (lr _) rfl ?_
 refine ymr rfl rfl (lr _) rfl (lr _) ?_
 refine sq_yes rfl rfl (lr _) rfl (ev_not (lr _)) ?_
 refine ymr rfl rfl (lr _) rfl (lr _) ?_
 refine sq_no rfl rfl (lr _) rfl rfl ?_
 refine sq_no rfl rfl (lr _) rfl rfl ?_
 refine sq_no rfl rfl (lr _) rfl rfl ?_
 refine sq_yes rfl rfl (lr _) rfl (ev_pickF (v := .raw _) (lr _) (lr _)) ?_
 refine pf rfl (lr _) (lr _) ?_
 refine sq_nil ?_
 refine aw_false (lr _) ?_
 refine aw_skip (aw_seq (aw_region ?_))
 refine sq_ev rfl (ev_load_agg (lr _) rfl ty27 rfl) ?_
 refine mvs rfl (lr _) ?_
 refine sq_ev rfl (ev_call en81 (lr _) (ralone_pure p x y z) ⟨lr _, lr _, trivial⟩) ?_
 refine sq_ev rfl (ev_call en38 (lr _) (alone_val (v := false) hs hk hx hxm) ⟨lr _, trivial⟩) ?_
 refine sq_ev rfl (ev_mv (v := .tup _) (lr _)) ?_
 refine xtr rfl (lr _) rfl ?_
 refine xtr rfl (lr _) rfl ?_
 refine asr (lr _) rfl ?_
 refine asr (lr _) rfl ?_
 refine sq_nil (aw_seq (aw_region ?_))
 refine mvr (lr _) rfl ?_
 refine mvr (lr _) rfl ?_
 refine ymr rfl rfl (lr _) rfl (lr _) ?_
 refine sq_yes rfl rfl (lr _) rfl (ev_not (lr _)) ?_
 refine sq_ev rfl (ev_pickT (v := .raw _) (lr _) (lr _)) ?_
 refine mvr (lr _) rfl ?_
 refine sq_yes rfl rfl (lr _) rfl (ev_call en21 (lr _) (known_pure) trivial) ?_
 refine sq_ev rfl (ev_pickT (v := .raw _) (lr _) (lr _)) ?_
 refine asr (lr _) rfl ?_
 refine sq_nil (aw_ret ?_)
 exact retQ_pure (v := .raw _) rfl rfl (lr _)
/-- **NightStars returns true.** -/
theorem law19 (p : Pl) (l h : List Int) : APure Tryz.prog 19 [plan p, ints l, ints h] (B true) := by
  by_cases hs : p.scenes.length ≤ 12
  · by_cases hl : l.length ≤ 12
    · cases hk : PlOK p with
      | false => exact law19_bad p l h hs hl hk
      | true =>
        cases hc : (Ris p l && isCh p l) with
        | false => exact law19_cho p l h hs hl hk hc
        | true =>
          obtain ⟨l', rfl, cv, gp, wp⟩ := chosen_up (p := p) (l := l) (by rw [chosenB, Bool.and_assoc, hc, hk]; rfl)
          rw [ints_up]
          have hl' : l'.length ≤ 12 := by simpa [up] using hl
          by_cases hh : h.length = 3
          · obtain ⟨a, b, c, rfl⟩ : ∃ a b c, h = [a, b, c] := by
              rcases h with _ | ⟨a, _ | ⟨b, _ | ⟨c, _ | ⟨d, t⟩⟩⟩⟩ <;> simp at hh
              exact ⟨a, b, c, rfl⟩
            cases hr : hrIn p a b c with
            | false => exact law19_hrs p l' a b c hs hl' hk hc hr
            | true =>
              have inc := ris_inc (Bool.and_eq_true_iff.1 hc).1
              have hla : l' ∈ allC p := mem_allC inc cv.rng (Bool.and_eq_true_iff.1 hc).2
              have miss : ∀ {s : List Nat} {x y z : Int}, s ∈ allC p → fitsP p s [x, y, z] = true → missH p [x, y, z] = false := fun hm hf => miss_of hm hf
              cases ha : surest p with
              | some s =>
                have hsm : s ∈ allC p := List.mem_of_find?_eq_some ha
                have hss : sureP p s = true := by have := List.find?_some ha; exact this
                have cvs : CV p s := allC_mem gp s hsm
                have hsl : s.length ≤ 12 := by
                  obtain ⟨h1, h2, _⟩ := allC_iff.1 hsm
                  have := inc_len h1 h2; have := ok_len hk; omega
                have hsc : (Ris p (up s) && isCh p (up s)) = true := by
                  obtain ⟨h1, h2, h3⟩ := allC_iff.1 hsm
                  rw [inc_ris h1 h2]; exact h3
                have hmi : missH p [a, b, c] = false := miss hsm (sure_fits wp cvs hss hr)
                have hm : missed p = none := by
                  cases hm : missed p with
                  | none => rfl
                  | some m =>
                    obtain ⟨⟨x, y, z, rfl, hx⟩, hxm, _⟩ := missed_spec wp hm
                    rw [miss hsm (sure_fits wp cvs hss hx)] at hxm; cases hxm
                cases hsu : sureP p l' with
                | true => exact law19_yTT p l' a b c hs hl' hk hc gp wp cv hr hsu (sure_fits wp cv hsu hr) hmi s ha hss hsl hsc (surest_first ha hla hsu) hm
                | false =>
                  cases hfi : fitsP p l' [a, b, c] with
                  | true => exact law19_yFT p l' a b c hs hl' hk hc gp wp cv hr hsu hfi hmi s ha hss hsl hsc hm
                  | false => exact law19_yFF p l' a b c hs hl' hk hc gp wp cv hr hsu hfi hmi s ha hss hsl hsc hm
              | none =>
                have hsu : sureP p l' = false := by
                  have := List.find?_eq_none.1 ha l' hla
                  simpa using this
                cases hm : missed p with
                | none =>
                  have hmi := missed_none wp hm hr
                  cases hfi : fitsP p l' [a, b, c] with
                  | true => exact law19_nTT p l' a b c hs hl' hk hc gp wp cv hr hsu hfi hmi ha hm
                  | false => exact law19_nFF p l' a b c hs hl' hk hc gp wp cv hr hsu hfi hmi ha hm
                | some m =>
                  obtain ⟨⟨x, y, z, rfl, hx⟩, hxm, hle⟩ := missed_spec wp hm
                  cases hfi : fitsP p l' [a, b, c] with
                  | true => exact law19_mTT p l' a b c hs hl' hk hc gp wp cv hr hsu hfi (miss hla hfi) ha x y z hm hx hxm
                  | false =>
                    cases hmi : missH p [a, b, c] with
                    | false => exact law19_mFT p l' a b c hs hl' hk hc gp wp cv hr hsu hfi hmi ha x y z hm hx hxm
                    | true => exact law19_mFF p l' a b c hs hl' hk hc gp wp cv hr hsu hfi hmi ha x y z hm hx hxm (hle _ ((ms_mem wp).2 ⟨a, b, c, rfl, hr⟩) hmi)
          · exact law19_len p l' h hs hl' hk hc hh
    · exact law19_slim p l h hs hl
  · exact law19_long p l h hs
end Go.Proofs.YtjghdbdiejaacaaGreatDoor
