/-
  A part of the proof: conditions: none beyond each theorem's own.
-/
import Derived.Test.YtmbknoaneglilaaGreatDoorWalkF
import Derived.Test.YtmbknoaneglilaaGreatDoorLogicD
set_option linter.all false
set_option maxHeartbeats 8000000
namespace Go.Proofs.YtmbknoaneglilaaGreatDoor
open Go Go.Ab Ni Ol
theorem en125 : Ent Tryz.prog 125 := Ent.of Tryz.func125 (by kernel_rfl) rfl
theorem en126 : Ent Tryz.prog 126 := Ent.of Tryz.func126 (by kernel_rfl) rfl
theorem en164 : Ent Tryz.prog 164 := Ent.of Tryz.func164 (by kernel_rfl) rfl
theorem z23 : zeroOf Tryz.prog 23 = some [.raw (.int .i64 0), .raw (.int .i64 0), .raw (.int .i64 0), .raw (.int .i64 0), .raw (.int .i64 0), .raw (.int .i64 0)] := by kernel_rfl
theorem qn10 {n : Nat} (h : n ≤ 1000000) : IntKind.i64.wrap ((n : Int).tdiv 10) = ((n / 10 : Nat) : Int) := by rw [qd (by omega) (by omega) (by decide)]; try omega
theorem rn10 {n : Nat} : ((n : Int).tmod 10) = ((n % 10 : Nat) : Int) := by rw [Int.tmod_eq_emod_of_nonneg (by omega)]; try omega
theorem itoa_nat (n : Nat) : Lib.itoa n = Lib.decDigits n := by unfold Lib.itoa; rw [if_neg (by omega)]; rfl
theorem dd_small {n : Nat} (h : n < 10) : Lib.decDigits n = [UInt8.ofNat (48 + n)] := by rw [Lib.decDigits, dif_pos h]
theorem dd_big {n : Nat} (h : ¬ n < 10) : Lib.decDigits n = Lib.decDigits (n / 10) ++ [UInt8.ofNat (48 + n % 10)] := by rw [Lib.decDigits, dif_neg h]
theorem digit_eq (n : Nat) : UInt8.ofNat ((48 + (n : Int)).toNat) = UInt8.ofNat (48 + n) := by congr 1; try omega
def preL (l : List (List UInt8)) : List UInt8 := (l.map fun x => 32 :: x).flatten
theorem preL_len (l : List (List UInt8)) : (preL l).length = sumL l := by
  unfold preL sumL
  induction l with
  | nil => rfl
  | cons x l ih => simp only [List.map_cons, List.flatten_cons, List.length_append, List.length_cons, List.sum_cons, ih]
theorem preL_take {l : List (List UInt8)} {k : Nat} (h : k < l.length) : preL (l.take (k + 1)) = preL (l.take k) ++ (32 :: l[k]) := by
  unfold preL; rw [List.take_succ_eq_append_getElem h, List.map_append, List.flatten_append]; simp
theorem join_eq : ∀ (w : List UInt8) (l : List (List UInt8)), Lib.join (w :: l) [32] = w ++ preL l
  | w, [] => by simp [Lib.join, preL, List.intercalate]
  | w, y :: l => by
    have ih := join_eq y l
    unfold Lib.join List.intercalate at ih ⊢
    rw [List.intersperse_cons_cons]
    simp only [List.flatten_cons]
    rw [ih]
    simp [preL]
theorem sumL_take : ∀ (l : List (List UInt8)) (k : Nat), sumL (l.take k) ≤ sumL l
  | [], k => by simp
  | x :: l, 0 => by simp [sumL]
  | x :: l, k + 1 => by
    have := sumL_take l k
    simp only [sumL, List.take_succ_cons, List.map_cons, List.sum_cons] at this ⊢; omega
theorem sumL_get : ∀ (l : List (List UInt8)) (k : Nat) (h : k < l.length), l[k].length + 1 ≤ sumL l
  | x :: l, 0, _ => by simp [sumL]
  | x :: l, k + 1, h => by
    have := sumL_get l k (by simpa using h)
    simp only [sumL, List.getElem_cons_succ, List.map_cons, List.sum_cons] at this ⊢; omega
theorem coOK_small {l : List Fg} (h : coOK l = true) : l.length ≤ 6 ∧ ∀ f ∈ l, f.length ≤ 6 ∧ sumL f ≤ 42 := by
  obtain ⟨h1, h2⟩ := coOK_facts h
  refine ⟨h1.2, fun f hf => ?_⟩
  obtain ⟨i, hi, rfl⟩ := List.getElem_of_mem hf
  obtain ⟨a, b, c⟩ := fgOK_facts (h2 i hi)
  refine ⟨a.2, ?_⟩
  have key : ∀ g : List (List UInt8), (∀ r ∈ g, r.length ≤ 6) → sumL g ≤ 7 * g.length := fun g => by
    induction g with
    | nil => intro _; simp [sumL]
    | cons r g ih =>
      intro h
      have h1 := h r (by simp)
      have h2 := ih fun q hq => h q (by simp [hq])
      simp only [sumL, List.map_cons, List.sum_cons, List.length_cons] at h2 ⊢; omega
  have := key l[i] fun r hr => by obtain ⟨j, hj, rfl⟩ := List.getElem_of_mem hr; rw [c j hj]; omega
  omega
theorem smb_ok {b : Bk} (h : bkOK b = true) : SmB b := by
  unfold bkOK at h
  simp only [Bool.and_eq_true] at h
  have h1 := stOK_iff.1 h.1
  obtain ⟨h2, h3⟩ := coOK_small h.2
  have hb : ∀ n ∈ stL b.s, -1000000 ≤ n ∧ n ≤ 1000000 := fun n hn => by
    simp only [stL, List.mem_cons, List.not_mem_nil, or_false] at hn
    rcases hn with rfl | rfl | rfl | rfl | rfl | rfl <;> omega
  refine ⟨hb, fun f hf => by have := h3 f hf; omega, fun r hr => ?_, by omega⟩
  rcases rowsB_mem hr with rfl | ⟨f, hf, rfl⟩
  · unfold lineO nameW rowW
    rw [join_len]
    have key : ∀ l : List Int, (∀ n ∈ l, -1000000 ≤ n ∧ n ≤ 1000000) → sumL (l.map Lib.itoa) ≤ 9 * l.length := fun l => by
      induction l with
      | nil => intro _; simp [sumL]
      | cons n l ih =>
        intro h
        have h1 := itoa_len (h n (by simp))
        have h2 := ih fun m hm => h m (by simp [hm])
        simp only [sumL, List.map_cons, List.sum_cons, List.length_cons] at h2 ⊢
        omega
    have := key _ hb
    have e : (stL b.s).length = 6 := rfl
    rw [e] at this
    have e2 : wStage.length = 5 := rfl
    simp only; omega
  · unfold lineO nameW rowW
    rw [join_len]
    have := h3 f hf
    have e2 : wFigure.length = 6 := rfl
    simp only; omega
theorem itoas_len (l : List Int) (hb : ∀ n ∈ l, 0 ≤ n ∧ n ≤ 1000000) : ∀ k, k ≤ l.length → (preL ((l.take k).map Lib.itoa)).length ≤ 9 * k
  | 0, _ => by simp [preL]
  | k + 1, h => by
    have ih := itoas_len l hb k (by omega)
    have hil := itoa_len (n := l[k]) (by have := hb _ (List.getElem_mem (show k < l.length by omega)); omega)
    rw [preL_len] at ih ⊢
    rw [List.take_succ_eq_append_getElem (by omega), List.map_append]
    simp only [sumL, List.map_append, List.map_cons, List.map_nil, List.sum_append, List.sum_cons, List.sum_nil] at ih ⊢; omega
theorem rdec_pure (n : Nat) : n ≤ 1000000 → APure Tryz.prog 164 [I n] (S (Lib.decDigits n)) := by
  induction n using Nat.strongRecOn with
  | _ n ih =>
  intro hn
  refine apure_of (rs := [.tmp 2]) Tryz.func164 rfl rfl (Nat.le_of_ble_eq_true rfl) (by simp [AV.pureL, AV.pureB, AV.pureE, pureE_map]) (by first | rfl | (simp [AV.pureL, AV.pureB, AV.pureE, pureE_map])) fun e0 he0 => ?_
  refine aw_seq (aw_region ?_)
  refine asr J rfl (sq_nil (aw_seq (aw_seq (aw_region (mvr J rfl (sq_ev rfl (ev_gtr J J) ?_))))))
  refine mvr J rfl ?_
  refine sq_split 5 J (fun g1 => ?_) (fun g1 => ?_)
  · skip
    have g1' := g1
    try simp only [qq] at g1'
    refine sq_yes rfl rfl (less_b g1) rfl (ev_mv (v := .raw _) J) ?_
    refine sq_yes rfl rfl (less_b g1) rfl (ev_lss J J) ?_
    refine sq_ev rfl (ev_pickT (v := .raw _) (less_b g1) J) ?_
    refine sq_nil ?_
    refine aw_cond J (fun c2 => ?_) (fun c2 => ?_)
    · skip
      have c2' := c2
      try simp only [qq] at c2'
      exfalso; omega
    · skip
      have c2' := c2
      try simp only [qq] at c2'
      refine aw_skip (aw_seq (aw_seq (aw_region (mvr J rfl (sq_ev rfl (ev_lss J J) ?_)))))
      refine sq_nil ?_
      refine aw_cond J (fun c3 => ?_) (fun c3 => ?_)
      · skip
        have c3' := c3
        try simp only [qq] at c3'
        exfalso; omega
      · skip
        have c3' := c3
        try simp only [qq] at c3'
        refine aw_skip (aw_seq (aw_seq (aw_region (mvr J rfl (sq_ev rfl (ev_lss J J) ?_)))))
        refine sq_nil ?_
        refine aw_cond J (fun c4 => ?_) (fun c4 => ?_)
        · skip
          have c4' := c4
          try simp only [qq] at c4'
          refine aw_seq (aw_region (mvr J rfl (sq_ev rfl (ev_add J J (wr (by omega) (by omega))) ?_)))
          refine sq_ev rfl (ev_conv_int Tryz.underlying3 Tryz.underlying5 J (wr8 (by omega) (by omega))) ?_
          refine sq_ev rfl (ev_buildSlice (es := [[_]]) sf92 rfl rfl rfl rfl) ?_
          refine sq_ev rfl (ev_bytesS (ns := [_]) Tryz.underlying92 Tryz.underlying5 Tryz.underlying9 (less_slx _ _)) ?_
          refine asr J rfl (sq_nil (aw_ret ?_))
          exact retQ_pure (v := .raw _) rfl rfl (Less.eq (by rw [dd_small (n := n) (by omega)]; simp only [List.map_cons, List.map_nil, digit_eq]))
        · skip
          have c4' := c4
          try simp only [qq] at c4'
          refine aw_skip (aw_seq ?_)
          refine aw_draw 11 mo (by kernel_rfl) ?_
          refine dr_ev rfl (ev_mv (v := .raw _) J) ?_
          refine dr_ev rfl (ev_quo (q := ((n / 10 : Nat) : Int)) J J (by decide) (qn10 hn)) ?_
          refine dr_ev rfl (ev_call en164 J (ih (n / 10) (by omega) (by omega)) ⟨J, trivial⟩) ?_
          refine dr_ev rfl (ev_mv (v := .raw _) J) ?_
          refine dr_ev rfl (ev_less (ev_rem J J (by decide)) (less_int (by exact rn10))) ?_
          refine dr_ev rfl (ev_add J J (wr (by omega) (by omega))) ?_
          refine dr_ev rfl (ev_conv_int Tryz.underlying3 Tryz.underlying5 J (wr8 (by omega) (by omega))) ?_
          refine dr_ev rfl (ev_buildSlice (es := [[_]]) sf92 rfl rfl rfl rfl) ?_
          refine dr_ev rfl (ev_bytesS (ns := [_]) Tryz.underlying92 Tryz.underlying5 Tryz.underlying9 (less_slx _ _)) ?_
          refine dr_ev rfl (ev_catS J J (by have := decDigits_len 6 (n / 10) (by omega); simp; omega)) ?_
          refine dr_ev rfl (ev_as (v := .raw _) J) ?_
          refine dr_end (sq_nil (aw_ret ?_))
          exact retQ_pure (v := .raw _) rfl rfl (Less.eq (by rw [dd_big (n := n) (by omega)]; simp only [List.map_cons, List.map_nil, digit_eq]))
  · skip
    have g1' := g1
    try simp only [qq] at g1'
    exfalso; omega
theorem rdecimal_pure (n : Int) (h : 0 ≤ n ∧ n ≤ 1000000) : APure Tryz.prog 164 [I n] (S (Lib.itoa n)) := by
  obtain ⟨m, rfl⟩ : ∃ m : Nat, n = m := ⟨n.toNat, by omega⟩
  rw [itoa_nat]
  exact rdec_pure m (by omega)
theorem rrow_pure (w : List UInt8) (l : List Int) (hw : w.length ≤ 1000) (hl : l.length ≤ 1000) (hb : ∀ n ∈ l, 0 ≤ n ∧ n ≤ 1000000) : APure Tryz.prog 125 [S w, ints l] (S (w ++ preL (l.map Lib.itoa))) := by
  refine apure_of (rs := [.tmp 4]) Tryz.func125 rfl rfl (Nat.le_of_ble_eq_true rfl) (by simp [AV.pureL, AV.pureB, AV.pureE, pureE_map]) (by first | rfl | (simp [AV.pureL, AV.pureB, AV.pureE, pureE_map])) fun e0 he0 => ?_
  refine aw_seq (aw_region (asr J rfl ?_))
  refine sq_nil (aw_seq (aw_seq (aw_region (asr J rfl (sq_nil (aw_block ?_))))))
  refine aw_loopk (ι := { k : Nat // k ≤ l.length }) [1] (fun i => [(5, I i.1), (0, S (w ++ preL ((l.take i.1).map Lib.itoa)))]) (fun H i => H) (fun i => l.length - i.1) (⟨0, Nat.zero_le _⟩) ⟨J, Less.eq (by show S w = _; simp [preL]), J, trivial⟩ rfl ?_
  rintro ⟨k, hk⟩
  dsimp only [keepS, St.put, sget, slotsOf, nn1, nn2, nn3, nn4, nn5, nn6, Nat.reduceBEq, Nat.reduceAdd, nn7, nn8]
  have hnl := itoas_len l hb k hk
  refine aw_seq (aw_seq (aw_region (mvr J rfl (mvs rfl J (sq_ev rfl (ev_len_map sl64 J) ?_)))))
  refine sq_ev rfl (ev_lss J J) ?_
  refine sq_nil ?_
  refine aw_cond J (fun c1 => ?_) (fun c1 => ?_)
  · skip
    have c1' := c1
    try simp only [qq] at c1'
    have hk' : k < l.length := by omega
    have hv := hb _ (List.getElem_mem hk')
    have eL : S (w ++ preL ((l.take k).map Lib.itoa) ++ [32] ++ Lib.itoa l[k]) = S (w ++ preL ((l.take (k + 1)).map Lib.itoa)) := by rw [List.take_succ_eq_append_getElem hk', List.map_append]; simp [preL]
    refine aw_skip (aw_seq (aw_block (aw_region (mvr J rfl (sq_ev rfl (ev_catS J J (by simp only [List.length_append, List.length_cons, List.length_nil]; omega)) ?_)))))
    refine mvs rfl J (mvr J rfl (sq_ev rfl (ev_index_map sl64 J J rfl (by omega)) ?_))
    refine sq_ev rfl (ev_load_i J ty3 rfl) ?_
    refine sq_ev rfl (ev_call en164 J (rdecimal_pure _ hv) ⟨J, trivial⟩) ?_
    refine sq_ev rfl (ev_catS J J (by have := itoa_len (n := l[k]) (by omega); simp only [List.length_append, List.length_cons, List.length_nil]; omega)) ?_
    refine asr J rfl (sq_nil (aw_region (mvr J rfl (sq_ev rfl (ev_add J J (wr (by omega) (by omega))) ?_))))
    refine asr J rfl (sq_nil ?_)
    exact ⟨⟨k + 1, by omega⟩, by simp only; omega, Sub.slots ⟨J, Less.eq eL, J, trivial⟩⟩
  · skip
    have c1' := c1
    try simp only [qq] at c1'
    obtain rfl : k = l.length := by omega
    refine aw_exit (aw_seq (aw_region (mvr J rfl (asr J rfl (sq_nil (aw_ret ?_))))))
    exact retQ_pure (v := .raw _) rfl rfl (Less.eq (by simp))
theorem rsealed_pure (ls : List (List UInt8)) (hl : ls.length ≤ 1500) (hb : ∀ l ∈ ls, l.length ≤ 1000) : APure Tryz.prog 126 [.sl 1 (ls.map fun l => [S l]), I 173] (S (sealB ls)) := by
 refine apure_of (rs := [.tmp 4]) Tryz.func126 rfl rfl (Nat.le_of_ble_eq_true rfl) (by simp [AV.pureL, AV.pureB, AV.pureE, pureE_map]) (by first | rfl | (simp [AV.pureL, AV.pureB, AV.pureE, pureE_map])) fun e0 he0 => ?_
 refine aw_seq (aw_region (asr J rfl (sq_nil (aw_seq (aw_region (asr J rfl (asr J rfl ?_)))))))
 refine sq_nil (aw_seq (aw_seq (aw_region (asr J rfl (sq_nil (aw_block ?_))))))
 refine aw_loopk (ι := { i : Nat // i ≤ ls.length }) [0, 1] (fun i => [(7, I i.1), (5, S (outT ls i.1)), (6, I (ctT ls i.1))]) (fun H i => H) (fun i => ls.length - i.1) (⟨0, Nat.zero_le _⟩) ⟨J, J, J, J, J, trivial⟩ rfl ?_
 rintro ⟨i, hi⟩
 dsimp only [keepS, St.put, sget, slotsOf, nn1, nn2, nn3, nn4, nn5, nn6, Nat.reduceBEq, Nat.reduceAdd, nn7, nn8]
 have hol := outT_len hb i (by omega)
 have hct := ctT_bd (by omega) hb i (by omega)
 refine aw_seq (aw_seq (aw_region (mvr J rfl (mvs rfl J (sq_ev rfl (ev_len_map sl24 J) ?_)))))
 refine sq_ev rfl (ev_lss J J) ?_
 refine sq_nil ?_
 refine aw_cond J (fun c1 => ?_) (fun c1 => ?_)
 ·
  have c1' := c1
  try simp only [qq] at c1'
  have hi3 : i < ls.length := by omega
  have hll := hb _ (List.getElem_mem hi3)
  refine aw_skip (aw_seq (aw_block (aw_seq (aw_seq (aw_region (asr J rfl (sq_nil (aw_block ?_))))))))
  refine aw_loopk (ι := { k : Nat // k ≤ ls[i].length }) [0, 1, 5, 7] (fun k => [(8, I k.1), (6, I (ctT ls i + csT ((i : Int) + 1) ls[i] k.1))]) (fun H k => H) (fun k => ls[i].length - k.1) (⟨0, Nat.zero_le _⟩) ⟨J, (by exact less_int (by simp [csT])), J, J, J, J, trivial⟩ rfl ?_
  rintro ⟨k, hk⟩
  dsimp only [keepS, St.put, sget, slotsOf, nn1, nn2, nn3, nn4, nn5, nn6, Nat.reduceBEq, Nat.reduceAdd, nn7, nn8]
  have hcs := csT_bd (m := (i : Int) + 1) ⟨by omega, by omega⟩ ls[i] k hk hll
  refine aw_seq (aw_seq (aw_region (mvr J rfl (mvs rfl J (mvr J rfl (sq_ev rfl (ev_index_map sl24 J J rfl (by omega)) ?_))))))
  refine sq_ev rfl (ev_load_i J ty9 rfl) ?_
  refine sq_ev rfl (ev_lenS Tryz.underlying9 J) ?_
  refine sq_ev rfl (ev_lss J J) ?_
  refine sq_nil ?_
  refine aw_cond J (fun c2 => ?_) (fun c2 => ?_)
  ·
   have c2' := c2
   try simp only [qq] at c2'
   have hk' : k < ls[i].length := by omega
   have htb := term_bd (b := ls[i][k]) (j := k) (m := (i : Int) + 1) (by omega) ⟨by omega, by omega⟩
   have hb8 : (ls[i][k]).toNat < 256 := UInt8.toNat_lt _
   have eK : ctT ls i + csT ((i : Int) + 1) ls[i] k + (ls[i][k].toNat : Int) * ((k : Int) + 1) * ((i : Int) + 1) = ctT ls i + csT ((i : Int) + 1) ls[i] (k + 1) := by rw [csT_succ _ hk']; omega
   refine aw_skip (aw_seq (aw_block (aw_region (mvr J rfl (mvs rfl J (mvr J rfl (sq_ev rfl (ev_index_map sl24 J J rfl (by omega)) ?_)))))))
   refine sq_ev rfl (ev_load_i J ty9 rfl) ?_
   refine mvr J rfl (sq_ev rfl (ev_idxS Tryz.underlying9 J J rfl (by omega)) ?_)
   refine sq_ev rfl (ev_conv_int Tryz.underlying5 Tryz.underlying3 J (wr (by omega) (by omega))) ?_
   refine mvr J rfl (sq_ev rfl (ev_add J J (wr (by omega) (by omega))) ?_)
   refine sq_ev rfl (ev_mul J J (wr (by omega) (by omega))) ?_
   refine mvr J rfl (sq_ev rfl (ev_add J J (wr (by omega) (by omega))) ?_)
   refine sq_ev rfl (ev_mul J J (wr (by omega) (by omega))) ?_
   refine sq_ev rfl (ev_add J J (wr (by omega) (by omega))) ?_
   refine asr J rfl (sq_nil (aw_region (mvr J rfl (sq_ev rfl (ev_add J J (wr (by omega) (by omega))) ?_))))
   refine asr J rfl (sq_nil ?_)
   exact ⟨⟨k + 1, by omega⟩, by simp only; omega, Sub.slots ⟨J, (by exact less_int eK), J, J, J, J, trivial⟩⟩
  have c2' := c2
  try simp only [qq] at c2'
  obtain rfl : k = ls[i].length := by omega
  have eO : S (outT ls i ++ ls[i] ++ [10]) = S (outT ls (i + 1)) := by rw [outT_succ hi3]; simp
  have eC : ctT ls i + csT ((i : Int) + 1) ls[i] ls[i].length = ctT ls (i + 1) := by rw [ctT_succ hi3]; rfl
  refine aw_exit (aw_region (mvr J rfl (mvs rfl J (mvr J rfl (sq_ev rfl (ev_index_map sl24 J J rfl (by omega)) ?_)))))
  refine sq_ev rfl (ev_load_i J ty9 rfl) ?_
  refine sq_ev rfl (ev_catS J J (by omega)) ?_
  refine sq_ev rfl (ev_catS J J (by simp; omega)) ?_
  refine asr J rfl (sq_nil (aw_region (mvr J rfl (sq_ev rfl (ev_add J J (wr (by omega) (by omega))) ?_))))
  refine asr J rfl (sq_nil ?_)
  exact ⟨⟨i + 1, by omega⟩, by simp only; omega, Sub.slots ⟨J, Less.eq eO, (by exact less_int eC), J, J, trivial⟩⟩
 have c1' := c1
 try simp only [qq] at c1'
 obtain rfl : i = ls.length := by omega
 refine aw_exit (aw_seq (aw_region (mvr J rfl (mvr J rfl (sq_ev rfl (ev_less (ev_rem J J (by decide)) (less_int (Int.tmod_eq_emod_of_nonneg (by omega)))) ?_)))))
 refine asr J rfl (sq_nil (aw_seq ?_))
 have i1 := itoa_len (n := ctT ls ls.length % 173 / 100) ⟨by omega, by omega⟩
 have i2 := itoa_len (n := ctT ls ls.length % 173 / 10 % 10) ⟨by omega, by omega⟩
 have i3 := itoa_len (n := ctT ls ls.length % 173 % 10) ⟨by omega, by omega⟩
 refine aw_region (mvr J rfl (sq_ev rfl (ev_catS J J (by simp; omega)) ?_))
 refine mvr J rfl (sq_ev rfl (ev_quo (q := ctT ls ls.length % 173 / 100) J J (by decide) (qd (by omega) (by omega) (by decide))) ?_)
 refine sq_ev rfl (ev_call en164 J (rdecimal_pure _ (by omega)) ⟨J, trivial⟩) ?_
 refine sq_ev rfl (ev_catS J J (by simp; omega)) ?_
 refine mvr J rfl (sq_ev rfl (ev_quo (q := ctT ls ls.length % 173 / 10) J J (by decide) (qd (by omega) (by omega) (by decide))) ?_)
 refine sq_ev rfl (ev_less (ev_rem J J (by decide)) (less_int (Int.tmod_eq_emod_of_nonneg (by omega)))) ?_
 refine sq_ev rfl (ev_call en164 J (rdecimal_pure _ (by omega)) ⟨J, trivial⟩) ?_
 refine sq_ev rfl (ev_catS J J (by simp; omega)) ?_
 refine mvr J rfl (sq_ev rfl (ev_less (ev_rem J J (by decide)) (less_int (Int.tmod_eq_emod_of_nonneg (by omega)))) ?_)
 refine sq_ev rfl (ev_call en164 J (rdecimal_pure _ (by omega)) ⟨J, trivial⟩) ?_
 refine sq_ev rfl (ev_catS J J (by simp; omega)) ?_
 refine sq_ev rfl (ev_catS J J (by simp; omega)) ?_
 refine asr J rfl (sq_nil (aw_ret ?_))
 exact retQ_pure (v := .raw _) rfl rfl (Less.eq (by simp [sealB, digs3]))
theorem rprint_pure (b : Bk) (sm : SmB b) (nn : ∀ n ∈ stL b.s, 0 ≤ n) : APure Tryz.prog 57 [bkA b] (S (textB b)) := by
 refine apure_of (rs := [.tmp 2]) Tryz.func57 rfl rfl (Nat.le_of_ble_eq_true rfl) (by simp [AV.pureL, AV.pureB, AV.pureE, pureE_map]) (by first | rfl | (simp [AV.pureL, AV.pureB, AV.pureE, pureE_map])) fun e0 he0 => ?_
 refine aw_seq (aw_region (sq_box rfl J rfl (asr J rfl (sq_nil (aw_seq (aw_region (sq_ev rfl (ev_fieldAddr fo81_0 J) ?_)))))))
 refine sq_ev rfl (ev_load_agg J rfl ty23 rfl) ?_
 refine sq_alloc rfl z23 ?_
 refine sq_store rfl J J rfl rfl ty23 rfl rfl ?_
 refine sq_nil (aw_seq (aw_region (sq_ev rfl (ev_fieldAddr fo23_0 J) ?_)))
 refine sq_ev rfl (ev_load J rfl ty3 rfl) ?_
 refine sq_ev rfl (ev_fieldAddr fo23_1 J) ?_
 refine sq_ev rfl (ev_load J rfl ty3 rfl) ?_
 refine sq_ev rfl (ev_fieldAddr fo23_2 J) ?_
 refine sq_ev rfl (ev_load J rfl ty3 rfl) ?_
 refine sq_ev rfl (ev_fieldAddr fo23_3 J) ?_
 refine sq_ev rfl (ev_load J rfl ty3 rfl) ?_
 refine sq_ev rfl (ev_fieldAddr fo23_4 J) ?_
 refine sq_ev rfl (ev_load J rfl ty3 rfl) ?_
 refine sq_ev rfl (ev_fieldAddr fo23_5 J) ?_
 refine sq_ev rfl (ev_load J rfl ty3 rfl) ?_
 refine sq_ev rfl (ev_buildSlice (es := [[_], [_], [_], [_], [_], [_]]) sf64 rfl rfl rfl rfl) ?_
 refine sq_ev rfl (ev_call en125 J (rrow_pure wStage (stL b.s) (by decide) (by show 6 ≤ 1000; decide) (fun n h => ⟨nn n h, (sm.head n h).2⟩)) ⟨J, stL_sl _, trivial⟩) ?_
 refine sq_ev rfl (ev_less (ev_buildSlice (es := [[_]]) sf24 rfl rfl rfl rfl) (Less.eq (b := .slx 1 [[S (lineO b.s none)]]) (by rw [lineO, join_eq]; rfl))) ?_
 refine sq_ev rfl (ev_as (v := .slx _ _) J) ?_
 refine sq_nil (aw_seq (aw_seq (aw_region (asr J rfl (sq_nil (aw_block ?_))))))
 refine aw_sub (sub_token_slx 4 1 J) ?_
 refine aw_loopk (ι := { k : Nat // k ≤ b.l.length }) [1] (fun i => [(5, I i.1), (4, .own 2 1 (((rowsT b i.1).map (lineO b.s)).map fun x => [S x]))]) (fun H i => H.set 2 (.tok (((rowsT b i.1).map (lineO b.s)).map fun x => [S x]).length)) (fun i => b.l.length - i.1) (⟨0, Nat.zero_le _⟩) ⟨J, J, J, trivial⟩ rfl ?_
 rintro ⟨i, hi⟩
 dsimp only [keepS, St.put, sget, slotsOf, nn1, nn2, nn3, nn4, nn5, nn6, Nat.reduceBEq, Nat.reduceAdd, nn7, nn8]
 have hrl := rowsT_len hi
 have hsl := sm.len
 refine aw_seq (aw_seq (aw_region (mvr J rfl (sq_ev rfl (ev_fieldAddr fo81_1 J) ?_))))
 refine sq_ev rfl (ev_load J rfl ty45 rfl) ?_
 refine sq_ev rfl (ev_len_map sl45 J) ?_
 refine sq_ev rfl (ev_lss J J) ?_
 refine sq_nil ?_
 refine aw_cond J (fun c_29 => ?_) (fun c_29 => ?_)
 ·
  have c_29' := c_29
  try simp only [qq] at c_29'
  have hiL : i < b.l.length := by omega
  have hrf := sm.row _ (List.getElem_mem hiL)
  have hln := sm.line (some b.l[i]) (by unfold rowsB rowsT; rw [List.take_length]; exact List.mem_cons_of_mem _ (List.mem_map.2 ⟨_, List.getElem_mem hiL, rfl⟩))
  have hsm : sumL b.l[i] ≤ 1000 := by unfold lineO at hln; rw [join_len] at hln; simp only [rowW] at hln; omega
  refine aw_skip (aw_seq (aw_block (aw_seq (aw_region (asr J rfl ?_)))))
  refine sq_nil (aw_seq (aw_seq (aw_region (asr J rfl (sq_nil (aw_block ?_))))))
  refine aw_loopk (ι := { j : Nat // j ≤ b.l[i].length }) [1, 4, 5] (fun j => [(7, I j.1), (6, S (wFigure ++ preL (b.l[i].take j.1)))]) (fun H j => H) (fun j => b.l[i].length - j.1) (⟨0, Nat.zero_le _⟩) ⟨J, Less.eq (by simp [preL] <;> rfl), J, J, J, trivial⟩ rfl ?_
  rintro ⟨j, hj⟩
  dsimp only [keepS, St.put, sget, slotsOf, nn1, nn2, nn3, nn4, nn5, nn6, Nat.reduceBEq, Nat.reduceAdd, nn7, nn8]
  have hpl := preL_len (b.l[i].take j)
  have hps := sumL_take b.l[i] j
  refine aw_seq (aw_seq (aw_region (mvr J rfl (sq_ev rfl (ev_fieldAddr fo81_1 J) ?_))))
  refine sq_ev rfl (ev_load J rfl ty45 rfl) ?_
  refine mvr J rfl (sq_ev rfl (ev_index_map sl45 J J rfl (by omega)) ?_)
  refine sq_ev rfl (ev_fieldAddr_i fo26_0 J) ?_
  refine sq_ev rfl (ev_load_i J ty24 rfl) ?_
  refine sq_ev rfl (ev_len_map sl24 J) ?_
  refine sq_ev rfl (ev_lss J J) ?_
  refine sq_nil ?_
  refine aw_cond J (fun c_40 => ?_) (fun c_40 => ?_)
  ·
   have c_40' := c_40
   try simp only [qq] at c_40'
   have hjL : j < b.l[i].length := by omega
   have hgl := sumL_get b.l[i] j hjL
   have eL : S (wFigure ++ preL (b.l[i].take j) ++ [32] ++ b.l[i][j]) = S (wFigure ++ preL (b.l[i].take (j + 1))) := by rw [preL_take hjL]; simp
   refine aw_skip (aw_seq (aw_block (aw_region (mvr J rfl (sq_ev rfl (ev_catS J J (by have : wFigure.length = 6 := rfl; simp; omega)) ?_)))))
   refine sq_ev rfl (ev_fieldAddr fo81_1 J) ?_
   refine sq_ev rfl (ev_load J rfl ty45 rfl) ?_
   refine mvr J rfl (sq_ev rfl (ev_index_map sl45 J J rfl (by omega)) ?_)
   refine sq_ev rfl (ev_fieldAddr_i fo26_0 J) ?_
   refine sq_ev rfl (ev_load_i J ty24 rfl) ?_
   refine mvr J rfl (sq_ev rfl (ev_index_map sl24 J J rfl (by omega)) ?_)
   refine sq_ev rfl (ev_load_i J ty9 rfl) ?_
   refine sq_ev rfl (ev_catS J J (by have : wFigure.length = 6 := rfl; simp; omega)) ?_
   refine asr J rfl (sq_nil (aw_region (mvr J rfl (sq_ev rfl (ev_add J J (wr (by omega) (by omega))) ?_))))
   refine asr J rfl (sq_nil ?_)
   exact ⟨⟨j + 1, by omega⟩, by simp only; omega, Sub.slots ⟨J, Less.eq eL, J, J, J, trivial⟩⟩
  have c_40' := c_40
  try simp only [qq] at c_40'
  obtain rfl : j = b.l[i].length := by omega
  have eS : ((rowsT b (i + 1)).map (lineO b.s)).map (fun x => [S x]) = ((rowsT b i).map (lineO b.s)).map (fun x => [S x]) ++ [[S (wFigure ++ preL (b.l[i].take b.l[i].length))]] := by rw [rowsT_succ hiL, List.map_append, List.map_append, List.take_length]; simp only [List.map_cons, List.map_nil, lineO, nameW, rowW]; rw [join_eq]
  refine aw_exit (aw_region (sq_ev rfl (ev_mv (v := .own _ _ _) J) ?_))
  refine mvr J rfl (sq_ev rfl (ev_buildSlice (es := [[_]]) sf24 rfl rfl rfl rfl) ?_)
  refine sq_append rfl sf24 Tryz.underlying24 rfl rfl (less_slx _ _) (Nat.succ_pos _) (by simp; omega) (by simp; omega) ?_
  refine sq_ev rfl (ev_as (v := .own _ _ _) J) ?_
  refine sq_nil (aw_region (mvr J rfl (sq_ev rfl (ev_add J J (wr (by omega) (by omega))) ?_)))
  refine asr J rfl (sq_nil ?_)
  exact ⟨⟨i + 1, by omega⟩, by simp only; omega, Sub.fin 3 ⟨J, Less.eq (b := .own 2 1 (((rowsT b (i + 1)).map (lineO b.s)).map (fun x => [S x]))) (by rw [eS] <;> rfl), J, trivial⟩ (congrArg (fun n => [_, _, AObj.tok n]) (congrArg List.length eS.symm)) (by simp [slotsIn, objsIn, sget, keepS, AObj.inB, AV.inB, AV.inL, AV.inE, inE_map, inE_ints, inE_strs, inE_figs, inE_cloths, -List.map_append, -List.map_take, -List.map_map]) (by simp [slotsIn, objsIn, sget, keepS, AObj.inB, AV.inB, AV.inL, AV.inE, inE_map, inE_ints, inE_strs, inE_figs, inE_cloths, -List.map_append, -List.map_take, -List.map_map]) (by simp [he0])⟩
 have c_29' := c_29
 try simp only [qq] at c_29'
 obtain rfl : i = b.l.length := by omega
 have hll0 : (linesB b).length = b.l.length + 1 := by show ((rowsT b b.l.length).map (lineO b.s)).length = _; simp [hrl]
 refine aw_exit (aw_seq (aw_region (sq_ev rfl (ev_mv (v := .own _ _ _) J) ?_)))
 refine sq_ev rfl (ev_call en126 J (rsealed_pure (linesB b) (by omega) (linesB_len sm)) ⟨less_own _ _ _, J, trivial⟩) ?_
 refine asr J rfl (sq_nil (aw_ret ?_))
 exact retQ_pure (v := .raw _) rfl rfl (Less.eq (by rfl))
end Go.Proofs.YtmbknoaneglilaaGreatDoor
namespace Go.Proofs.YtmbknoaneglilaaGreatDoor
open Go Go.Ab Ni Ol
theorem bi47 : bldInfo Tryz.prog 47 = some ([.raw (.int .i64 0), .raw (.int .i64 0)], true, [(0, 1), (1, 1)], 0) := by kernel_rfl
theorem bi49 : bldInfo Tryz.prog 49 = some ([.raw (.int .i64 0), .raw (.int .i64 0), .raw (.int .i64 0), .raw (.int .i64 0), .raw (.int .i64 0)], true, [(0, 2), (2, 2), (4, 1)], 0) := by kernel_rfl
theorem en32 : Ent Tryz.prog 32 := Ent.of Tryz.func32 (by kernel_rfl) rfl
theorem en47 : Ent Tryz.prog 47 := Ent.of Tryz.func47 (by kernel_rfl) rfl
theorem en52 : Ent Tryz.prog 52 := Ent.of Tryz.func52 (by kernel_rfl) rfl
theorem en82 : Ent Tryz.prog 82 := Ent.of Tryz.func82 (by kernel_rfl) rfl
theorem en90 : Ent Tryz.prog 90 := Ent.of Tryz.func90 (by kernel_rfl) rfl
theorem en91 : Ent Tryz.prog 91 := Ent.of Tryz.func91 (by kernel_rfl) rfl
theorem en92 : Ent Tryz.prog 92 := Ent.of Tryz.func92 (by kernel_rfl) rfl
theorem en93 : Ent Tryz.prog 93 := Ent.of Tryz.func93 (by kernel_rfl) rfl
theorem en94 : Ent Tryz.prog 94 := Ent.of Tryz.func94 (by kernel_rfl) rfl
theorem en95 : Ent Tryz.prog 95 := Ent.of Tryz.func95 (by kernel_rfl) rfl
theorem en96 : Ent Tryz.prog 96 := Ent.of Tryz.func96 (by kernel_rfl) rfl
theorem sl117 : slElem Tryz.prog 117 = some (108, 1) := by kernel_rfl
theorem ty108 : tySz Tryz.prog 108 = some (false, 1) := by kernel_rfl
theorem z49 : zeroOf Tryz.prog 49 = some [.raw (.int .i64 0), .raw (.int .i64 0), .raw (.int .i64 0), .raw (.int .i64 0), .raw (.int .i64 0)] := by kernel_rfl
abbrev sS : Sg := ⟨8, 8, 8, 0, 4, 4⟩
abbrev sT : Sg := ⟨8, 8, 8, 1, 4, 4⟩
abbrev fF : Fg := [[35, 35], [35, 35]]
abbrev fH : Fg := [[35, 35], [35, 46]]
abbrev rR : Rc := ⟨0, 1, 3, 3, 3⟩
abbrev nN8 : List (List UInt8) := List.replicate 8 (List.replicate 8 63)
def seenC (w : Int) (l : List (List UInt8)) (k : Nat) (c : UInt8) : List (List UInt8) := l.set (k / w.toNat) ((l.getD (k / w.toNat) []).set (k % w.toNat) c)
theorem same_ext {α : Type} {a b : List α} (hl : a.length = b.length) (h : ∀ i, (h1 : i < a.length) → (h2 : i < b.length) → a[i] = b[i]) : a = b := List.ext_getElem hl h
theorem kF_pure  : APure Tryz.prog 90 [] (fgA fF) := by
  refine apure_of (rs := [.cell 0 26]) Tryz.func90 rfl rfl (Nat.le_of_ble_eq_true rfl) (by simp [AV.pureL, AV.pureB, AV.pureE, pureE_map]) (by first | rfl | (simp [AV.pureL, AV.pureB, AV.pureE, pureE_map])) fun e0 he0 => ?_
  refine aw_seq (aw_region ?_)
  refine sq_alloc rfl z26 ?_
  refine sq_nil (aw_seq (aw_region (sq_ev rfl (ev_buildSlice (es := [[_], [_]]) sf24 rfl rfl rfl rfl) ?_)))
  refine sq_ev rfl (ev_build bi26 rfl) ?_
  refine sq_store rfl J J rfl rfl ty26 rfl rfl ?_
  refine sq_nil (aw_ret ?_)
  exact retQ_res (vs := [.agg _]) rfl rfl ⟨resVar_cell rfl rfl ty26 rfl, trivial⟩ (less_agg ⟨less_slx _ _, trivial⟩)
theorem kH_pure  : APure Tryz.prog 91 [] (fgA fH) := by
 refine apure_of (rs := [.cell 0 26]) Tryz.func91 rfl rfl (Nat.le_of_ble_eq_true rfl) (by simp [AV.pureL, AV.pureB, AV.pureE, pureE_map]) (by first | rfl | (simp [AV.pureL, AV.pureB, AV.pureE, pureE_map])) fun e0 he0 => ?_
 refine aw_seq (aw_region ?_)
 refine sq_alloc rfl z26 ?_
 refine sq_nil (aw_seq (aw_region (sq_ev rfl (ev_buildSlice (es := [[_], [_]]) sf24 rfl rfl rfl rfl) ?_)))
 refine sq_ev rfl (ev_build bi26 rfl) ?_
 refine sq_store rfl J J rfl rfl ty26 rfl rfl ?_
 refine sq_nil (aw_ret ?_)
 exact retQ_res (vs := [.agg _]) rfl rfl ⟨resVar_cell rfl rfl ty26 rfl, trivial⟩ (less_agg ⟨less_slx _ _, trivial⟩)
theorem kS_pure  : APure Tryz.prog 94 [] (stA sS) := by
 refine apure_of (rs := [.cell 0 23]) Tryz.func94 rfl rfl (Nat.le_of_ble_eq_true rfl) (by simp [AV.pureL, AV.pureB, AV.pureE, pureE_map]) (by first | rfl | (simp [AV.pureL, AV.pureB, AV.pureE, pureE_map])) fun e0 he0 => ?_
 refine aw_seq (aw_region ?_)
 refine sq_alloc rfl z23 ?_
 refine sq_nil (aw_seq (aw_region (sq_ev rfl (ev_build bi23 rfl) ?_)))
 refine sq_store rfl J J rfl rfl ty23 rfl rfl ?_
 refine sq_nil (aw_ret ?_)
 exact retQ_res (vs := [.agg _]) rfl rfl ⟨resVar_cell rfl rfl ty23 rfl, trivial⟩ J
theorem kT_pure  : APure Tryz.prog 92 [] (stA sT) := by
 refine apure_of (rs := [.cell 0 23]) Tryz.func92 rfl rfl (Nat.le_of_ble_eq_true rfl) (by simp [AV.pureL, AV.pureB, AV.pureE, pureE_map]) (by first | rfl | (simp [AV.pureL, AV.pureB, AV.pureE, pureE_map])) fun e0 he0 => ?_
 refine aw_seq (aw_region ?_)
 refine sq_alloc rfl z23 ?_
 refine sq_nil (aw_seq (aw_region (sq_ev rfl (ev_call en94 J (kS_pure) trivial) ?_)))
 refine sq_alloc rfl z23 ?_
 refine sq_store rfl J J rfl rfl ty23 rfl rfl ?_
 refine sq_nil (aw_seq (aw_region (sq_ev rfl (ev_fieldAddr fo23_3 J) ?_)))
 refine sq_store rfl J J rfl rfl ty3 rfl rfl ?_
 refine sq_nil (aw_seq (aw_region (sq_ev rfl (ev_load_agg J rfl ty23 rfl) ?_)))
 refine sq_store rfl J J rfl rfl ty23 rfl rfl ?_
 refine sq_nil (aw_ret ?_)
 exact retQ_res (vs := [.agg _]) rfl rfl ⟨resVar_cell rfl rfl ty23 rfl, trivial⟩ J
theorem kR_pure  : APure Tryz.prog 93 [] (rcA rR) := by
 refine apure_of (rs := [.cell 0 49]) Tryz.func93 rfl rfl (Nat.le_of_ble_eq_true rfl) (by simp [AV.pureL, AV.pureB, AV.pureE, pureE_map]) (by first | rfl | (simp [AV.pureL, AV.pureB, AV.pureE, pureE_map])) fun e0 he0 => ?_
 refine aw_seq (aw_region ?_)
 refine sq_alloc rfl z49 ?_
 refine sq_nil (aw_seq (aw_region (sq_ev rfl (ev_build bi47 rfl) ?_)))
 refine sq_ev rfl (ev_build bi47 rfl) ?_
 refine sq_ev rfl (ev_build bi49 rfl) ?_
 refine sq_store rfl J J rfl rfl ty49 rfl rfl ?_
 refine sq_nil (aw_ret ?_)
 exact retQ_res (vs := [.agg _]) rfl rfl ⟨resVar_cell rfl rfl ty49 rfl, trivial⟩ J
theorem kat_pure (n x y : Int) : APure Tryz.prog 32 [I n, I x, I y] (pcA ⟨n, x, y⟩) := by
 refine apure_of (rs := [.cell 6 28]) Tryz.func32 rfl rfl (Nat.le_of_ble_eq_true rfl) (by simp [AV.pureL, AV.pureB, AV.pureE, pureE_map]) (by first | rfl | (simp [AV.pureL, AV.pureB, AV.pureE, pureE_map])) fun e0 he0 => ?_
 refine aw_seq (aw_region ?_)
 refine sq_alloc rfl z28 ?_
 refine sq_nil (aw_seq (aw_region (mvr J rfl (mvr J rfl (mvr J rfl (sq_ev rfl (ev_build bi28 rfl) ?_))))))
 refine sq_store rfl J J rfl rfl ty28 rfl rfl ?_
 refine sq_nil (aw_ret ?_)
 exact retQ_res (vs := [.agg _]) rfl rfl ⟨resVar_cell rfl rfl ty28 rfl, trivial⟩ J
theorem kN_pure  : APure Tryz.prog 96 [] (strs nN8) := by
 refine apure_of (rs := [.tmp 0]) Tryz.func96 rfl rfl (Nat.le_of_ble_eq_true rfl) (by simp [AV.pureL, AV.pureB, AV.pureE, pureE_map]) (by first | rfl | (simp [AV.pureL, AV.pureB, AV.pureE, pureE_map])) fun e0 he0 => ?_
 refine aw_seq (aw_region (asr J rfl (sq_nil (aw_seq (aw_region (asr J rfl ?_))))))
 refine sq_nil (aw_seq (aw_seq (aw_region (asr J rfl (sq_nil (aw_block ?_))))))
 refine aw_sub (sub_token 1 1 J) ?_
 refine aw_loopk (ι := { k : Nat // k ≤ 8 }) [] (fun i => [(2, I i.1), (1, .own 0 1 ((List.replicate i.1 (List.replicate 8 (63 : UInt8))).map fun x => [S x]))]) (fun H i => H.set 0 (.tok ((List.replicate i.1 (List.replicate 8 (63 : UInt8))).map fun x => [S x]).length)) (fun i => 8 - i.1) (⟨0, Nat.zero_le _⟩) ⟨J, J, trivial⟩ rfl ?_
 rintro ⟨k, hk⟩
 dsimp only [keepS, St.put, sget, slotsOf, nn1, nn2, nn3, nn4, nn5, nn6, Nat.reduceBEq, Nat.reduceAdd, nn7, nn8]
 refine aw_seq (aw_seq (aw_region (mvr J rfl (sq_ev rfl (ev_lss J J) ?_))))
 refine sq_nil ?_
 refine aw_cond J (fun c_4 => ?_) (fun c_4 => ?_)
 ·
  have c_4' := c_4
  try simp only [qq] at c_4'
  have eS : (List.replicate (k + 1) (List.replicate 8 (63 : UInt8))).map (fun x => [S x]) = (List.replicate k (List.replicate 8 (63 : UInt8))).map (fun x => [S x]) ++ [[S (List.replicate 8 63)]] := by rw [List.replicate_succ', List.map_append]; rfl
  refine aw_skip (aw_seq (aw_block (aw_region (sq_ev rfl (ev_mv (v := .own _ _ _) J) ?_))))
  refine sq_ev rfl (ev_buildSlice (es := [[_]]) sf24 rfl rfl rfl rfl) ?_
  refine sq_append rfl sf24 Tryz.underlying24 rfl rfl (less_slx _ _) (Nat.succ_pos _) (by simp; omega) (by simp; omega) ?_
  refine sq_ev rfl (ev_as (v := .own _ _ _) J) ?_
  refine sq_nil (aw_region (mvr J rfl (sq_ev rfl (ev_add J J (wr (by omega) (by omega))) ?_)))
  refine asr J rfl (sq_nil ?_)
  exact ⟨⟨k + 1, by omega⟩, by simp only; omega, Sub.fin 1 ⟨J, Less.eq (b := .own 0 1 ((List.replicate (k + 1) (List.replicate 8 (63 : UInt8))).map fun x => [S x])) (by rw [eS] <;> rfl), trivial⟩ (congrArg (fun n => [AObj.tok n]) (congrArg List.length eS.symm)) (by simp [slotsIn, objsIn, sget, keepS, AObj.inB, AV.inB, AV.inL, AV.inE, inE_map, -List.map_replicate, inE_ints, inE_strs, inE_figs, inE_cloths, -List.map_append, -List.map_take, -List.map_map]) (by simp [slotsIn, objsIn, sget, keepS, AObj.inB, AV.inB, AV.inL, AV.inE, inE_map, -List.map_replicate, inE_ints, inE_strs, inE_figs, inE_cloths, -List.map_append, -List.map_take, -List.map_map]) (by simp [he0])⟩
 have c_4' := c_4
 try simp only [qq] at c_4'
 obtain rfl : k = 8 := by omega
 refine aw_exit (aw_seq (aw_region (sq_ev rfl (ev_mv (v := .own _ _ _) J) ?_)))
 refine sq_ev rfl (ev_as (v := .own _ _ _) J) ?_
 refine sq_nil (aw_ret ?_)
 exact retQ_pure (v := .own _ _ _) rfl rfl (Less.trans (less_own _ _ _) (Less.eq (by rfl)))
theorem seen_pure (s : Sg) (l : List (List UInt8)) (k : Nat) (c : UInt8) (hs : stOK s = true) (hc : Clo s l) (hk : (k : Int) < s.wide * s.high) : APure Tryz.prog 52 [stA s, strs l, I k, C c] (strs (seenC s.wide l k c)) := by
 refine apure_of (rs := [.tmp 8]) Tryz.func52 rfl rfl (Nat.le_of_ble_eq_true rfl) (by simp [AV.pureL, AV.pureB, AV.pureE, pureE_map]) (by first | rfl | (simp [AV.pureL, AV.pureB, AV.pureE, pureE_map])) fun e0 he0 => ?_
 have hsb := stOK_iff.1 hs
 have hwh := wh_bd hs
 obtain ⟨h1, h2, h3⟩ := chAt_get hs hc hk
 have hll : l.length = s.high.toNat := hc.len
 have hlr : l[k / s.wide.toNat].length = s.wide.toNat := hc.row _ (List.getElem_mem h1)
 have hget : ∀ rs : List AV, ((l.map fun x => [S x]).flatten ++ rs)[0 + k / s.wide.toNat * 1]? = some (S l[k / s.wide.toNat]) := fun rs => by
  rw [flat_single, Nat.zero_add, Nat.mul_one, List.getElem?_append_left (by simpa using h1), List.getElem?_map, List.getElem?_eq_getElem h1]; rfl
 have hnew : S (l[k / s.wide.toNat].take (k % s.wide.toNat) ++ ([((c.toNat : Nat) : Int)].map fun n => UInt8.ofNat n.toNat) ++ l[k / s.wide.toNat].drop (k % s.wide.toNat + 1)) = S (l[k / s.wide.toNat].set (k % s.wide.toNat) c) := by
  have e : ([((c.toNat : Nat) : Int)].map fun n => UInt8.ofNat n.toNat) = [c] := by simp
  rw [e, List.set_eq_take_append_cons_drop, if_pos h2]; simp
 refine aw_seq (aw_region (sq_box rfl J rfl (asr J rfl (sq_nil (aw_seq (aw_region (mvs rfl J ?_)))))))
 refine sq_append_msl (xs := l.map fun x => [S x]) rfl sf24 Tryz.underlying24 (less_nilx _) J (by simp; omega) (by simp; omega) (by simp; omega) fun cap hcap => ?_
 rw [List.length_map] at hcap
 refine sq_ev rfl (ev_as (v := .msl _ _ _ _) J) ?_
 refine sq_nil (aw_seq (aw_region (sq_ev rfl (ev_mv (v := .msl _ _ _ _) J) ?_)))
 refine mvr J rfl (sq_ev rfl (ev_fieldAddr fo23_0 J) ?_)
 refine sq_ev rfl (ev_load J rfl ty3 rfl) ?_
 refine sq_ev rfl (ev_quo (q := ((k / s.wide.toNat : Nat) : Int)) J J (by omega) (quo_nat (by omega) (by omega))) ?_
 refine sq_ev rfl (ev_index_msl sl24 J J rfl (by simpa using h1)) ?_
 refine sq_ev rfl (ev_load J rfl ty9 (hget _)) ?_
 refine asr J rfl (sq_nil (aw_seq ?_))
 refine aw_draw 24 mo (by kernel_rfl) ?_
 refine dr_ev rfl (ev_mv (v := .msl _ _ _ _) J) ?_
 refine dr_ev rfl (ev_mv (v := .raw _) J) ?_
 refine dr_ev rfl (ev_fieldAddr fo23_0 J) ?_
 refine dr_ev rfl (ev_load J rfl ty3 rfl) ?_
 refine dr_ev rfl (ev_quo (q := ((k / s.wide.toNat : Nat) : Int)) J J (by omega) (quo_nat (by omega) (by omega))) ?_
 refine dr_ev rfl (ev_mv (v := .raw _) J) ?_
 refine dr_ev rfl (ev_mv (v := .raw _) J) ?_
 refine dr_ev rfl (ev_fieldAddr fo23_0 J) ?_
 refine dr_ev rfl (ev_load J rfl ty3 rfl) ?_
 refine dr_ev rfl (ev_less (ev_rem J J (by omega)) (less_int (rem_nat (by omega)))) ?_
 refine dr_ev rfl (ev_cutHi Tryz.underlying9 J J (by omega)) ?_
 refine dr_ev rfl (ev_mv (v := .raw _) J) ?_
 refine dr_ev rfl (ev_buildSlice (es := [[_]]) sf92 rfl rfl rfl rfl) ?_
 refine dr_ev rfl (ev_bytesS (ns := [_]) Tryz.underlying92 Tryz.underlying5 Tryz.underlying9 (less_slx _ _)) ?_
 refine dr_ev rfl (ev_catS J J (by simp only [List.length_append, List.length_cons, List.length_nil, List.length_take, List.length_drop, List.length_map]; omega)) ?_
 refine dr_ev rfl (ev_mv (v := .raw _) J) ?_
 refine dr_ev rfl (ev_mv (v := .raw _) J) ?_
 refine dr_ev rfl (ev_fieldAddr fo23_0 J) ?_
 refine dr_ev rfl (ev_load J rfl ty3 rfl) ?_
 refine dr_ev rfl (ev_less (ev_rem J J (by omega)) (less_int (rem_nat (by omega)))) ?_
 refine dr_ev rfl (ev_add J J (wr (by omega) (by omega))) ?_
 refine dr_ev rfl (ev_cutLo (lo := k % s.wide.toNat + 1) Tryz.underlying9 J (less_int (by simp)) (by omega)) ?_
 refine dr_ev rfl (ev_catS J J (by simp only [List.length_append, List.length_cons, List.length_nil, List.length_take, List.length_drop, List.length_map]; omega)) ?_
 refine dr_ev rfl (ev_index_msl sl24 J J rfl (by simpa using h1)) ?_
 refine dr_end ?_
 refine sq_storeRow (A := [AObj.cells (stC s), .dead]) (X := []) (R := l) (rs := (List.replicate ((cap - (l.map fun x => [S x]).length) * 1) AV.any)) (k := 1) (v := (l[k / s.wide.toNat].set (k % s.wide.toNat) c)) (a := S (l[k / s.wide.toNat].set (k % s.wide.toNat) c)) (n := k / s.wide.toNat) (f := fun x => [S x]) (sz := 1) (bb := false) ?_ ?_ (fun _ => rfl) (by simp) ?_ ?_ ?_ ?_ ?_ ?_
 ·
  rfl
 ·
  rfl
 ·
  exact h1
 ·
  exact J
 ·
  exact Less.eq hnew
 ·
  rfl
 ·
  exact ty9
 refine sq_nil (aw_seq (aw_region (sq_ev rfl (ev_mv (v := .msl _ _ _ _) J) ?_)))
 refine sq_sub (sub_freezeK [] 44 (j := 1) (sz := 1) (es := (l.set (k / s.wide.toNat) (l[k / s.wide.toNat].set (k % s.wide.toNat) c)).map fun x => [S x]) (rest := (List.replicate ((cap - (l.map fun x => [S x]).length) * 1) AV.any)) rfl rfl (by simp) (fun r hr => by obtain ⟨t, _, rfl⟩ := List.mem_map.1 hr; rfl)) ?_
 refine ass rfl J (sq_nil (aw_ret ?_))
 exact retQ_pure (v := .sl _ _) rfl rfl (Less.eq (by unfold seenC; rw [getD_get h1]))
theorem kD_pure  : APure Tryz.prog 95 [] (strs (seenC 8 nN8 36 35)) := by
 refine apure_of (rs := [.tmp 0]) Tryz.func95 rfl rfl (Nat.le_of_ble_eq_true rfl) (by simp [AV.pureL, AV.pureB, AV.pureE, pureE_map]) (by first | rfl | (simp [AV.pureL, AV.pureB, AV.pureE, pureE_map])) fun e0 he0 => ?_
 refine aw_seq (aw_region (asr J rfl (sq_nil (aw_seq (aw_region (sq_ev rfl (ev_call en94 J (kS_pure) trivial) ?_))))))
 refine sq_ev rfl (ev_call en96 J (kN_pure) trivial) ?_
 refine sq_ev rfl (ev_call en52 J (seen_pure sS nN8 36 35 (by decide +kernel) ⟨rfl, fun r hr => by rw [(List.mem_replicate.1 hr).2]; rfl⟩ (by decide)) ⟨J, J, J, J, trivial⟩) ?_
 refine ass rfl J (sq_nil (aw_ret ?_))
 exact retQ_pure (v := .sl _ _) rfl rfl J
theorem same_pure (a b : List Int) (ha : a.length ≤ 1000000) (hb : b.length ≤ 1000000) : APure Tryz.prog 47 [ints a, ints b] (B (decide (a = b))) := by
 refine apure_of (rs := [.tmp 4]) Tryz.func47 rfl rfl (Nat.le_of_ble_eq_true rfl) (by simp [AV.pureL, AV.pureB, AV.pureE, pureE_map]) (by first | rfl | (simp [AV.pureL, AV.pureB, AV.pureE, pureE_map])) fun e0 he0 => ?_
 refine aw_seq (aw_region ?_)
 refine asr J rfl (sq_nil (aw_seq (aw_seq (aw_region (mvs rfl J (sq_ev rfl (ev_len_map sl64 J) ?_))))))
 refine mvs rfl J (sq_ev rfl (ev_len_map sl64 J) ?_)
 refine sq_ev rfl (ev_neq J J) ?_
 refine sq_nil ?_
 refine aw_cond J (fun c_10 => ?_) (fun c_10 => ?_)
 ·
  have c_10' := c_10
  try simp only [qq] at c_10'
  refine aw_seq (aw_region (asr J rfl (sq_nil (aw_ret ?_))))
  exact retQ_pure (v := .raw _) rfl rfl (Less.eq (by rw [decide_eq_false (fun h => by rw [h] at c_10'; exact c_10' rfl)]))
 have c_10' := c_10
 try simp only [qq] at c_10'
 have hlen : a.length = b.length := by omega
 refine aw_skip (aw_seq (aw_seq (aw_region (asr J rfl (sq_nil (aw_block ?_))))))
 refine aw_loopk (ι := { k : Nat // k ≤ a.length ∧ ∀ i, (h1 : i < a.length) → (h2 : i < b.length) → i < k → a[i] = b[i] }) [0, 1] (fun g => [(5, I g.1)]) (fun H g => H) (fun g => a.length - g.1) (⟨0, Nat.zero_le _, by omega⟩) ⟨J, J, J, trivial⟩ rfl ?_
 rintro ⟨k, hk, hok⟩
 dsimp only [keepS, St.put, sget, slotsOf, nn1, nn2, nn3, nn4, nn5, nn6, Nat.reduceBEq, Nat.reduceAdd, nn7, nn8]
 refine aw_seq (aw_seq (aw_region (mvr J rfl (mvs rfl J (sq_ev rfl (ev_len_map sl64 J) ?_)))))
 refine sq_ev rfl (ev_lss J J) ?_
 refine sq_nil ?_
 refine aw_cond J (fun c_14 => ?_) (fun c_14 => ?_)
 ·
  have c_14' := c_14
  try simp only [qq] at c_14'
  have hkL : k < a.length := by omega
  refine aw_skip (aw_seq (aw_block (aw_seq ?_)))
  refine aw_draw 9 mo (by kernel_rfl) ?_
  refine dr_ev rfl (ev_mv (v := .sl _ _) J) ?_
  refine dr_ev rfl (ev_mv (v := .raw _) J) ?_
  refine dr_ev rfl (ev_index_map sl64 J J rfl (by omega)) ?_
  refine dr_ev rfl (ev_load_i J ty3 rfl) ?_
  refine dr_ev rfl (ev_mv (v := .sl _ _) J) ?_
  refine dr_ev rfl (ev_mv (v := .raw _) J) ?_
  refine dr_ev rfl (ev_index_map sl64 J J rfl (by omega)) ?_
  refine dr_ev rfl (ev_load_i J ty3 rfl) ?_
  refine dr_ev rfl (ev_neq J J) ?_
  refine dr_end (sq_nil ?_)
  refine aw_cond J (fun c_25 => ?_) (fun c_25 => ?_)
  ·
   have c_25' := c_25
   try simp only [qq] at c_25'
   refine aw_seq (aw_region (asr J rfl (sq_nil (aw_ret ?_))))
   exact retQ_pure (v := .raw _) rfl rfl (Less.eq (by rw [decide_eq_false (fun h => by subst h; exact c_25' rfl)]))
  have c_25' := c_25
  try simp only [qq] at c_25'
  refine aw_skip (aw_region (mvr J rfl (sq_ev rfl (ev_add J J (wr (by omega) (by omega))) ?_)))
  refine asr J rfl (sq_nil ?_)
  exact ⟨⟨k + 1, by omega, fun i h1 h2 h => (by by_cases e : i = k; (subst e; simpa using c_25'); exact hok i h1 h2 (by omega))⟩, by simp only; omega, Sub.slots ⟨J, J, J, trivial⟩⟩
 have c_14' := c_14
 try simp only [qq] at c_14'
 have heq : a = b := same_ext hlen fun i h1 h2 => hok i h1 h2 (by omega)
 refine aw_exit (aw_seq (aw_region (asr J rfl (sq_nil (aw_ret ?_)))))
 exact retQ_pure (v := .raw _) rfl rfl (Less.eq (by rw [decide_eq_true heq]))
theorem sameW_pure (a b : List Int) (ha : a.length ≤ 1000000) (hb : b.length ≤ 1000000) : APure Tryz.prog 82 [ints a, ints b] (B (decide (a = b))) := by
 refine apure_of (rs := [.tmp 4]) Tryz.func82 rfl rfl (Nat.le_of_ble_eq_true rfl) (by simp [AV.pureL, AV.pureB, AV.pureE, pureE_map]) (by first | rfl | (simp [AV.pureL, AV.pureB, AV.pureE, pureE_map])) fun e0 he0 => ?_
 refine aw_seq (aw_region ?_)
 refine asr J rfl (sq_nil (aw_seq (aw_seq (aw_region (mvs rfl J (sq_ev rfl (ev_len_map sl117 J) ?_))))))
 refine mvs rfl J (sq_ev rfl (ev_len_map sl117 J) ?_)
 refine sq_ev rfl (ev_neq J J) ?_
 refine sq_nil ?_
 refine aw_cond J (fun c_10 => ?_) (fun c_10 => ?_)
 ·
  have c_10' := c_10
  try simp only [qq] at c_10'
  refine aw_seq (aw_region (asr J rfl (sq_nil (aw_ret ?_))))
  exact retQ_pure (v := .raw _) rfl rfl (Less.eq (by rw [decide_eq_false (fun h => by rw [h] at c_10'; exact c_10' rfl)]))
 have c_10' := c_10
 try simp only [qq] at c_10'
 have hlen : a.length = b.length := by omega
 refine aw_skip (aw_seq (aw_seq (aw_region (asr J rfl (sq_nil (aw_block ?_))))))
 refine aw_loopk (ι := { k : Nat // k ≤ a.length ∧ ∀ i, (h1 : i < a.length) → (h2 : i < b.length) → i < k → a[i] = b[i] }) [0, 1] (fun g => [(5, I g.1)]) (fun H g => H) (fun g => a.length - g.1) (⟨0, Nat.zero_le _, by omega⟩) ⟨J, J, J, trivial⟩ rfl ?_
 rintro ⟨k, hk, hok⟩
 dsimp only [keepS, St.put, sget, slotsOf, nn1, nn2, nn3, nn4, nn5, nn6, Nat.reduceBEq, Nat.reduceAdd, nn7, nn8]
 refine aw_seq (aw_seq (aw_region (mvr J rfl (mvs rfl J (sq_ev rfl (ev_len_map sl117 J) ?_)))))
 refine sq_ev rfl (ev_lss J J) ?_
 refine sq_nil ?_
 refine aw_cond J (fun c_14 => ?_) (fun c_14 => ?_)
 ·
  have c_14' := c_14
  try simp only [qq] at c_14'
  have hkL : k < a.length := by omega
  refine aw_skip (aw_seq (aw_block (aw_seq ?_)))
  refine aw_draw 9 mo (by kernel_rfl) ?_
  refine dr_ev rfl (ev_mv (v := .sl _ _) J) ?_
  refine dr_ev rfl (ev_mv (v := .raw _) J) ?_
  refine dr_ev rfl (ev_index_map sl117 J J rfl (by omega)) ?_
  refine dr_ev rfl (ev_load_i J ty108 rfl) ?_
  refine dr_ev rfl (ev_mv (v := .sl _ _) J) ?_
  refine dr_ev rfl (ev_mv (v := .raw _) J) ?_
  refine dr_ev rfl (ev_index_map sl117 J J rfl (by omega)) ?_
  refine dr_ev rfl (ev_load_i J ty108 rfl) ?_
  refine dr_ev rfl (ev_neq J J) ?_
  refine dr_end (sq_nil ?_)
  refine aw_cond J (fun c_25 => ?_) (fun c_25 => ?_)
  ·
   have c_25' := c_25
   try simp only [qq] at c_25'
   refine aw_seq (aw_region (asr J rfl (sq_nil (aw_ret ?_))))
   exact retQ_pure (v := .raw _) rfl rfl (Less.eq (by rw [decide_eq_false (fun h => by subst h; exact c_25' rfl)]))
  have c_25' := c_25
  try simp only [qq] at c_25'
  refine aw_skip (aw_region (mvr J rfl (sq_ev rfl (ev_add J J (wr (by omega) (by omega))) ?_)))
  refine asr J rfl (sq_nil ?_)
  exact ⟨⟨k + 1, by omega, fun i h1 h2 h => (by by_cases e : i = k; (subst e; simpa using c_25'); exact hok i h1 h2 (by omega))⟩, by simp only; omega, Sub.slots ⟨J, J, J, trivial⟩⟩
 have c_14' := c_14
 try simp only [qq] at c_14'
 have heq : a = b := same_ext hlen fun i h1 h2 => hok i h1 h2 (by omega)
 refine aw_exit (aw_seq (aw_region (asr J rfl (sq_nil (aw_ret ?_)))))
 exact retQ_pure (v := .raw _) rfl rfl (Less.eq (by rw [decide_eq_true heq]))
end Go.Proofs.YtmbknoaneglilaaGreatDoor
namespace Go.Proofs.YtmbknoaneglilaaGreatDoor
open Go Go.Ab Ni Ol
theorem en28 : Ent Tryz.prog 28 := Ent.of Tryz.func28 (by kernel_rfl) rfl
theorem en33 : Ent Tryz.prog 33 := Ent.of Tryz.func33 (by kernel_rfl) rfl
theorem en35 : Ent Tryz.prog 35 := Ent.of Tryz.func35 (by kernel_rfl) rfl
theorem en44 : Ent Tryz.prog 44 := Ent.of Tryz.func44 (by kernel_rfl) rfl
theorem en45 : Ent Tryz.prog 45 := Ent.of Tryz.func45 (by kernel_rfl) rfl
theorem en56 : Ent Tryz.prog 56 := Ent.of Tryz.func56 (by kernel_rfl) rfl
theorem en57 : Ent Tryz.prog 57 := Ent.of Tryz.func57 (by kernel_rfl) rfl
theorem en61 : Ent Tryz.prog 61 := Ent.of Tryz.func61 (by kernel_rfl) rfl
theorem en62 : Ent Tryz.prog 62 := Ent.of Tryz.func62 (by kernel_rfl) rfl
theorem en67 : Ent Tryz.prog 67 := Ent.of Tryz.func67 (by kernel_rfl) rfl
theorem en73 : Ent Tryz.prog 73 := Ent.of Tryz.func73 (by kernel_rfl) rfl
theorem en79 : Ent Tryz.prog 79 := Ent.of Tryz.func79 (by kernel_rfl) rfl
abbrev xS : Sn := ⟨sS, [fF, fH], rR⟩
abbrev xT : Sn := ⟨sT, [fF, fH], rR⟩
abbrev d36 : List (List UInt8) := seenC 8 nN8 36 35
abbrev text0 : List UInt8 := [115, 116, 97, 103, 101, 32, 49, 32, 49, 32, 50, 32, 48, 32, 48, 32, 48, 10, 102, 105, 103, 117, 114, 101, 32, 35, 10, 101, 110, 100, 32, 48, 55, 48, 10]
abbrev b0 : Bk := ⟨⟨1, 1, 2, 0, 0, 0⟩, [[[35]]]⟩
abbrev cF4 : Ca := ⟨sT, fF, ⟨4, 3, 3⟩⟩
abbrev cH4 : Ca := ⟨sT, fH, ⟨4, 3, 3⟩⟩
abbrev cF1 : Ca := ⟨sT, fF, ⟨1, 3, 3⟩⟩
abbrev shH : List (List UInt8) := cH4.shadow
theorem e_cF : caOK cF4 = true := by decide +kernel
theorem e_cH : caOK cH4 = true := by decide +kernel
theorem e_dark : cnt 35 cF4.shadow = 4 := by decide +kernel
theorem e_grey : cnt 43 cF4.shadow = 32 := by decide +kernel
theorem e_len : shH.length = 8 := by decide +kernel
theorem e_1 : shH[1]? = some [46, 43, 43, 43, 43, 43, 43, 46] := by decide +kernel
theorem e_5 : shH[5]? = some [46, 43, 43, 43, 43, 46, 46, 46] := by decide +kernel
theorem e_most : (cF4.atN 0 |> caOK) = true ∧ cF4.most = some 4 := by decide +kernel
theorem e_fades : (cH4.atN 0 |> caOK) = true ∧ cH4.fades = some 1 := by decide +kernel
theorem e_mis : misE xT = (0, 1, 0) := by decide +kernel
theorem e_tolo : tolOK xT 1 = true := by decide +kernel
theorem e_tol : toldOf xT 1 = [0] := by decide +kernel
theorem e_whoL : whoL xS d36 = [3, 1] := by decide +kernel
theorem e_whoE : whoE xS d36 = 0 := by decide +kernel
theorem e_next : nextR xS nN8 = ((36, 1), 0) := by decide +kernel
theorem e_plan : planE xS [0, 27, 36] = ([36], 0) := by decide +kernel
theorem e_parse0 : parse0 text0 = some b0 := by decide +kernel
theorem e_text : textB b0 = text0 := by decide +kernel
theorem e_parse : parseB text0 = some b0 := by unfold parseB; rw [e_parse0]; simp only; rw [if_pos e_text]
theorem e_bk : bkOK b0 = true := by decide +kernel
theorem e_read : readE text0 = (b0, 0) := readE_ok (by decide) e_parse e_bk
theorem k33 : APure Tryz.prog 33 [stA sT, fgA fF, pcA ⟨4, 3, 3⟩] (.tup [I 4, I 32, I 0]) := by
  have h := counts_pure cF4
  rw [if_pos e_cF, if_pos e_cF, e_dark, e_grey, e_cF] at h; exact h
theorem k28 : APure Tryz.prog 28 [stA sT, fgA fH, pcA ⟨4, 3, 3⟩] (.tup [strs shH, I 0]) := by
  have h := shadowE_pure cH4
  rw [if_pos e_cH, e_cH] at h; exact h
abbrev cF1b : Ca := ⟨sT, fF, ⟨1, 5, 3⟩⟩
theorem e_meet : (caOK cF1 && caOK cF1b) = true ∧ meetsC cF1 cF1b = 2 := by decide +kernel
theorem k73 : APure Tryz.prog 73 [stA sT, fgA fF, pcA ⟨1, 3, 3⟩, fgA fF, pcA ⟨1, 5, 3⟩] (.tup [I 2, I 0]) := by
  have h := meets_pure cF1 fF ⟨1, 5, 3⟩
  have e1 : (caOK cF1 && caOK (Ca.mk cF1.s fF ⟨1, 5, 3⟩)) = true := e_meet.1
  have e2 : meetsC cF1 (Ca.mk cF1.s fF ⟨1, 5, 3⟩) = 2 := e_meet.2
  rw [if_pos e1, e1, e2] at h; exact h
theorem k61 : APure Tryz.prog 61 [stA sT, fgA fF, I 3, I 3] (.tup [I 4, I 0]) := by
  have h := most_pure cF4
  rw [if_pos e_most.1, if_pos e_most.1, e_most.2] at h; exact h
theorem k62 : APure Tryz.prog 62 [stA sT, fgA fH, I 3, I 3] (.tup [I 1, I 0]) := by
  have h := fades_pure cH4
  rw [if_pos e_fades.1, if_pos e_fades.1, e_fades.2] at h; exact h
theorem k44 : APure Tryz.prog 44 [stA sT, figs [fF, fH], rcA rR] (.tup [I 0, I 1, I 0]) := by
  have h := mistaken_pure xT (by decide)
  rw [e_mis] at h; exact h
theorem k45 : APure Tryz.prog 45 [stA sT, figs [fF, fH], rcA rR, I 1] (.tup [ints [0], I 0]) := by
  have h := told_pure xT 1 (by decide)
  rw [if_pos e_tolo, e_tolo, show (1 : Int).toNat = 1 from rfl, e_tol] at h; exact h
theorem k79 : APure Tryz.prog 79 [stA sS, figs [fF, fH], rcA rR, strs d36] (.tup [ints [3, 1], I 0]) := by
  have h := who_pure xS d36 (by decide) ⟨by decide +kernel, by decide +kernel⟩
  rw [e_whoL, e_whoE] at h; exact h
theorem k35 : APure Tryz.prog 35 [stA sS, figs [fF, fH], rcA rR, strs nN8] (.tup [I 36, I 1, I 0]) := by
  have h := next_pure xS nN8 (by decide) ⟨by decide +kernel, by decide +kernel⟩
  rw [e_next] at h; exact h
theorem k67 : APure Tryz.prog 67 [stA sS, figs [fF, fH], rcA rR, ints [0, 27, 36]] (.tup [ints [36], I 0]) := by
  have h := plan_pure xS [0, 27, 36] (by decide) (by decide)
  rw [e_plan] at h; exact h
theorem k56 : APure Tryz.prog 56 [S text0] (.tup [bkA b0, I 0]) := by
  have h := read_pure text0
  rw [readAV, e_read] at h; exact h
theorem k57 : APure Tryz.prog 57 [bkA b0] (S text0) := by
  have h := rprint_pure b0 (smb_ok e_bk) (by decide)
  rw [e_text] at h; exact h
set_option maxRecDepth 20000 in
theorem known_pure  : APure Tryz.prog 27 [] (B true) := by
  refine apure_of (rs := [.tmp 0]) Tryz.func27 rfl rfl (Nat.le_of_ble_eq_true rfl) (by simp [AV.pureL, AV.pureB, AV.pureE, pureE_map]) (by first | rfl | (simp [AV.pureL, AV.pureB, AV.pureE, pureE_map])) fun e0 he0 => ?_
  refine aw_seq (aw_region (asr J rfl (sq_nil (aw_seq (aw_region (sq_ev rfl (ev_call en90 J (kF_pure) trivial) ?_))))))
  refine sq_ev rfl (ev_call en91 J (kH_pure) trivial) ?_
  refine sq_ev rfl (ev_buildSlice (es := [[_], [_]]) sf45 rfl rfl rfl rfl) ?_
  refine sq_ev rfl (ev_as (v := figs [fF, fH]) (Less.trans (less_slx _ _) (Less.eq rfl))) ?_
  refine sq_nil (aw_seq (aw_region (sq_ev rfl (ev_call en92 J (kT_pure) trivial) ?_)))
  refine sq_ev rfl (ev_call en90 J (kF_pure) trivial) ?_
  refine sq_ev rfl (ev_call en32 J (kat_pure _ _ _) ⟨J, J, J, trivial⟩) ?_
  refine sq_ev rfl (ev_call en33 J (k33) ⟨J, J, J, trivial⟩) ?_
  refine sq_ev rfl (ev_mv (v := .tup _) J) ?_
  refine xtr rfl J rfl (xtr rfl J rfl (xtr rfl J rfl ?_))
  refine asr J rfl (asr J rfl (asr J rfl (sq_nil (aw_seq (aw_region (sq_ev rfl (ev_call en92 J (kT_pure) trivial) ?_))))))
  refine sq_ev rfl (ev_call en91 J (kH_pure) trivial) ?_
  refine sq_ev rfl (ev_call en32 J (kat_pure _ _ _) ⟨J, J, J, trivial⟩) ?_
  refine sq_ev rfl (ev_call en28 J (k28) ⟨J, J, J, trivial⟩) ?_
  refine sq_ev rfl (ev_mv (v := .tup _) J) ?_
  refine xtr rfl J rfl ?_
  refine xtr rfl J rfl (ass rfl J (asr J rfl (sq_nil (aw_seq (aw_region (sq_ev rfl (ev_call en92 J (kT_pure) trivial) ?_))))))
  refine sq_ev rfl (ev_call en90 J (kF_pure) trivial) ?_
  refine sq_ev rfl (ev_call en32 J (kat_pure _ _ _) ⟨J, J, J, trivial⟩) ?_
  refine sq_ev rfl (ev_call en90 J (kF_pure) trivial) ?_
  refine sq_ev rfl (ev_call en32 J (kat_pure _ _ _) ⟨J, J, J, trivial⟩) ?_
  refine sq_ev rfl (ev_call en73 J (k73) ⟨J, J, J, J, J, trivial⟩) ?_
  refine sq_ev rfl (ev_mv (v := .tup _) J) ?_
  refine xtr rfl J rfl ?_
  refine xtr rfl J rfl (asr J rfl (asr J rfl (sq_nil (aw_seq (aw_region (sq_ev rfl (ev_call en92 J (kT_pure) trivial) ?_))))))
  refine sq_ev rfl (ev_call en90 J (kF_pure) trivial) ?_
  refine sq_ev rfl (ev_call en61 J (k61) ⟨J, J, J, J, trivial⟩) ?_
  refine sq_ev rfl (ev_mv (v := .tup _) J) ?_
  refine xtr rfl J rfl ?_
  refine xtr rfl J rfl (asr J rfl (asr J rfl (sq_nil (aw_seq (aw_region (sq_ev rfl (ev_call en92 J (kT_pure) trivial) ?_))))))
  refine sq_ev rfl (ev_call en91 J (kH_pure) trivial) ?_
  refine sq_ev rfl (ev_call en62 J (k62) ⟨J, J, J, J, trivial⟩) ?_
  refine sq_ev rfl (ev_mv (v := .tup _) J) ?_
  refine xtr rfl J rfl ?_
  refine xtr rfl J rfl (asr J rfl (asr J rfl (sq_nil (aw_seq (aw_region (sq_ev rfl (ev_call en92 J (kT_pure) trivial) ?_))))))
  refine mvs rfl J (sq_ev rfl (ev_call en93 J (kR_pure) trivial) ?_)
  refine sq_ev rfl (ev_call en44 J (k44) ⟨J, J, J, trivial⟩) ?_
  refine sq_ev rfl (ev_mv (v := .tup _) J) ?_
  refine xtr rfl J rfl (xtr rfl J rfl (xtr rfl J rfl ?_))
  refine asr J rfl (asr J rfl (asr J rfl (sq_nil (aw_seq (aw_region (sq_ev rfl (ev_call en92 J (kT_pure) trivial) ?_))))))
  refine mvs rfl J (sq_ev rfl (ev_call en93 J (kR_pure) trivial) ?_)
  refine sq_ev rfl (ev_call en45 J (k45) ⟨J, J, J, J, trivial⟩) ?_
  refine sq_ev rfl (ev_mv (v := .tup _) J) ?_
  refine xtr rfl J rfl ?_
  refine xtr rfl J rfl (ass rfl J (asr J rfl (sq_nil (aw_seq (aw_region (sq_ev rfl (ev_call en94 J (kS_pure) trivial) ?_))))))
  refine mvs rfl J (sq_ev rfl (ev_call en93 J (kR_pure) trivial) ?_)
  refine sq_ev rfl (ev_call en95 J (kD_pure) trivial) ?_
  refine sq_ev rfl (ev_call en79 J (k79) ⟨J, J, J, J, trivial⟩) ?_
  refine sq_ev rfl (ev_mv (v := .tup _) J) ?_
  refine xtr rfl J rfl ?_
  refine xtr rfl J rfl (ass rfl J (asr J rfl (sq_nil (aw_seq (aw_region (sq_ev rfl (ev_call en94 J (kS_pure) trivial) ?_))))))
  refine mvs rfl J (sq_ev rfl (ev_call en93 J (kR_pure) trivial) ?_)
  refine sq_ev rfl (ev_call en96 J (kN_pure) trivial) ?_
  refine sq_ev rfl (ev_call en35 J (k35) ⟨J, J, J, J, trivial⟩) ?_
  refine sq_ev rfl (ev_mv (v := .tup _) J) ?_
  refine xtr rfl J rfl (xtr rfl J rfl (xtr rfl J rfl ?_))
  refine asr J rfl (asr J rfl (asr J rfl (sq_nil (aw_seq (aw_region (sq_ev rfl (ev_call en94 J (kS_pure) trivial) ?_))))))
  refine mvs rfl J (sq_ev rfl (ev_call en93 J (kR_pure) trivial) ?_)
  refine sq_ev rfl (ev_buildSlice (es := [[_], [_], [_]]) sf64 rfl rfl rfl rfl) ?_
  refine sq_ev rfl (ev_call en67 J (k67) ⟨J, J, J, less_slx _ _, trivial⟩) ?_
  refine sq_ev rfl (ev_mv (v := .tup _) J) ?_
  refine xtr rfl J rfl ?_
  refine xtr rfl J rfl (ass rfl J (asr J rfl (sq_nil (aw_seq (aw_region (sq_ev rfl (ev_call en56 J (k56) ⟨J, trivial⟩) ?_))))))
  refine sq_ev rfl (ev_mv (v := .tup _) J) ?_
  refine xtr rfl J rfl (xtr rfl J rfl ?_)
  refine sq_alloc rfl z81 ?_
  refine sq_store rfl J J rfl rfl ty81 rfl rfl ?_
  refine asr J rfl (sq_nil (aw_seq (aw_seq (aw_region (mvr J rfl (sq_ev rfl (ev_neq J J) ?_))))))
  refine mvr J rfl ?_
  refine sq_split 112 J (fun g1 => ?_) (fun g1 => ?_)
  · skip
    have g1' := g1
    try simp only [qq] at g1'
    exact absurd g1 (by decide)
  · skip
    have g1' := g1
    try simp only [qq] at g1'
    refine sq_yes rfl rfl (less_b g1) rfl (ev_mv (v := .raw _) J) ?_
    refine sq_yes rfl rfl (less_b g1) rfl (ev_neq J J) ?_
    refine sq_ev rfl (ev_pickF (v := .raw _) (less_b g1) J) ?_
    refine mvr J rfl ?_
    refine sq_split 116 J (fun g2 => ?_) (fun g2 => ?_)
    · skip
      have g2' := g2
      try simp only [qq] at g2'
      exact absurd g2 (by decide)
    · skip
      have g2' := g2
      try simp only [qq] at g2'
      refine sq_yes rfl rfl (less_b g2) rfl (ev_mv (v := .raw _) J) ?_
      refine sq_yes rfl rfl (less_b g2) rfl (ev_neq J J) ?_
      refine sq_ev rfl (ev_pickF (v := .raw _) (less_b g2) J) ?_
      refine mvr J rfl ?_
      refine sq_split 120 J (fun g3 => ?_) (fun g3 => ?_)
      · skip
        have g3' := g3
        try simp only [qq] at g3'
        exact absurd g3 (by decide)
      · skip
        have g3' := g3
        try simp only [qq] at g3'
        refine sq_yes rfl rfl (less_b g3) rfl (ev_mv (v := .raw _) J) ?_
        refine sq_yes rfl rfl (less_b g3) rfl (ev_neq J J) ?_
        refine sq_ev rfl (ev_pickF (v := .raw _) (less_b g3) J) ?_
        refine mvr J rfl ?_
        refine sq_split 124 J (fun g4 => ?_) (fun g4 => ?_)
        · skip
          have g4' := g4
          try simp only [qq] at g4'
          exact absurd g4 (by decide)
        · skip
          have g4' := g4
          try simp only [qq] at g4'
          refine sq_yes rfl rfl (less_b g4) rfl (ev_mv (v := .raw _) J) ?_
          refine sq_yes rfl rfl (less_b g4) rfl (ev_neq J J) ?_
          refine sq_ev rfl (ev_pickF (v := .raw _) (less_b g4) J) ?_
          refine mvr J rfl ?_
          refine sq_split 128 J (fun g5 => ?_) (fun g5 => ?_)
          · skip
            have g5' := g5
            try simp only [qq] at g5'
            exact absurd g5 (by decide)
          · skip
            have g5' := g5
            try simp only [qq] at g5'
            refine sq_yes rfl rfl (less_b g5) rfl (ev_mv (v := .raw _) J) ?_
            refine sq_yes rfl rfl (less_b g5) rfl (ev_neq J J) ?_
            refine sq_ev rfl (ev_pickF (v := .raw _) (less_b g5) J) ?_
            refine mvr J rfl ?_
            refine sq_split 132 J (fun g6 => ?_) (fun g6 => ?_)
            · skip
              have g6' := g6
              try simp only [qq] at g6'
              exact absurd g6 (by decide)
            · skip
              have g6' := g6
              try simp only [qq] at g6'
              refine sq_yes rfl rfl (less_b g6) rfl (ev_mv (v := .raw _) J) ?_
              refine sq_yes rfl rfl (less_b g6) rfl (ev_neq J J) ?_
              refine sq_ev rfl (ev_pickF (v := .raw _) (less_b g6) J) ?_
              refine mvr J rfl ?_
              refine sq_split 136 J (fun g7 => ?_) (fun g7 => ?_)
              · skip
                have g7' := g7
                try simp only [qq] at g7'
                exact absurd g7 (by decide)
              · skip
                have g7' := g7
                try simp only [qq] at g7'
                refine sq_yes rfl rfl (less_b g7) rfl (ev_mv (v := .raw _) J) ?_
                refine sq_yes rfl rfl (less_b g7) rfl (ev_neq J J) ?_
                refine sq_ev rfl (ev_pickF (v := .raw _) (less_b g7) J) ?_
                refine mvr J rfl ?_
                refine sq_split 140 J (fun g8 => ?_) (fun g8 => ?_)
                · skip
                  have g8' := g8
                  try simp only [qq] at g8'
                  exact absurd g8 (by decide)
                · skip
                  have g8' := g8
                  try simp only [qq] at g8'
                  refine sq_yes rfl rfl (less_b g8) rfl (ev_mv (v := .raw _) J) ?_
                  refine sq_yes rfl rfl (less_b g8) rfl (ev_neq J J) ?_
                  refine sq_ev rfl (ev_pickF (v := .raw _) (less_b g8) J) ?_
                  refine mvr J rfl ?_
                  refine sq_split 144 J (fun g9 => ?_) (fun g9 => ?_)
                  · skip
                    have g9' := g9
                    try simp only [qq] at g9'
                    exact absurd g9 (by decide)
                  · skip
                    have g9' := g9
                    try simp only [qq] at g9'
                    refine sq_yes rfl rfl (less_b g9) rfl (ev_mv (v := .raw _) J) ?_
                    refine sq_yes rfl rfl (less_b g9) rfl (ev_neq J J) ?_
                    refine sq_ev rfl (ev_pickF (v := .raw _) (less_b g9) J) ?_
                    refine mvr J rfl ?_
                    refine sq_split 148 J (fun g10 => ?_) (fun g10 => ?_)
                    · skip
                      have g10' := g10
                      try simp only [qq] at g10'
                      exact absurd g10 (by decide)
                    · skip
                      have g10' := g10
                      try simp only [qq] at g10'
                      refine sq_yes rfl rfl (less_b g10) rfl (ev_mv (v := .raw _) J) ?_
                      refine sq_yes rfl rfl (less_b g10) rfl (ev_neq J J) ?_
                      refine sq_ev rfl (ev_pickF (v := .raw _) (less_b g10) J) ?_
                      refine sq_nil ?_
                      refine aw_cond J (fun c11 => ?_) (fun c11 => ?_)
                      · skip
                        have c11' := c11
                        try simp only [qq] at c11'
                        exact absurd c11 (by decide)
                      · skip
                        have c11' := c11
                        try simp only [qq] at c11'
                        refine aw_skip (aw_seq (aw_seq (aw_region (mvr J rfl (sq_ev rfl (ev_neq J J) ?_)))))
                        refine mvr J rfl ?_
                        refine sq_split 154 J (fun g12 => ?_) (fun g12 => ?_)
                        · skip
                          have g12' := g12
                          try simp only [qq] at g12'
                          exact absurd g12 (by decide)
                        · skip
                          have g12' := g12
                          try simp only [qq] at g12'
                          refine sq_yes rfl rfl (less_b g12) rfl (ev_mv (v := .raw _) J) ?_
                          refine sq_yes rfl rfl (less_b g12) rfl (ev_neq J J) ?_
                          refine sq_ev rfl (ev_pickF (v := .raw _) (less_b g12) J) ?_
                          refine mvr J rfl ?_
                          refine sq_split 158 J (fun g13 => ?_) (fun g13 => ?_)
                          · skip
                            have g13' := g13
                            try simp only [qq] at g13'
                            exact absurd g13 (by decide)
                          · skip
                            have g13' := g13
                            try simp only [qq] at g13'
                            refine sq_yes rfl rfl (less_b g13) rfl (ev_mv (v := .sl _ _) J) ?_
                            refine sq_yes rfl rfl (less_b g13) rfl (ev_less (ev_len_map sl24 J) (Less.eq (b := I 8) (by rw [e_len]; rfl))) ?_
                            refine sq_yes rfl rfl (less_b g13) rfl (ev_neq J J) ?_
                            refine sq_ev rfl (ev_pickF (v := .raw _) (less_b g13) J) ?_
                            refine mvr J rfl ?_
                            refine sq_split 163 J (fun g14 => ?_) (fun g14 => ?_)
                            · skip
                              have g14' := g14
                              try simp only [qq] at g14'
                              exact absurd g14 (by decide)
                            · skip
                              have g14' := g14
                              try simp only [qq] at g14'
                              refine sq_yes rfl rfl (less_b g14) rfl (ev_mv (v := .sl _ _) J) ?_
                              refine sq_yes rfl rfl (less_b g14) rfl (ev_less (ev_index_map (k := 1) sl24 J J rfl (by rw [e_len]; decide)) (Less.eq (b := .iptr [S [46, 43, 43, 43, 43, 43, 43, 46]]) (congrArg (fun r => AV.iptr [S r]) ((List.getElem_eq_iff _).2 e_1)))) ?_
                              refine sq_yes rfl rfl (less_b g14) rfl (ev_load_i J ty9 rfl) ?_
                              refine sq_yes rfl rfl (less_b g14) rfl (ev_sneS J J) ?_
                              refine sq_ev rfl (ev_pickF (v := .raw _) (less_b g14) J) ?_
                              refine mvr J rfl ?_
                              refine sq_split 169 J (fun g15 => ?_) (fun g15 => ?_)
                              · skip
                                have g15' := g15
                                try simp only [qq] at g15'
                                exact absurd g15 (by decide)
                              · skip
                                have g15' := g15
                                try simp only [qq] at g15'
                                refine sq_yes rfl rfl (less_b g15) rfl (ev_mv (v := .sl _ _) J) ?_
                                refine sq_yes rfl rfl (less_b g15) rfl (ev_less (ev_index_map (k := 5) sl24 J J rfl (by rw [e_len]; decide)) (Less.eq (b := .iptr [S [46, 43, 43, 43, 43, 46, 46, 46]]) (congrArg (fun r => AV.iptr [S r]) ((List.getElem_eq_iff _).2 e_5)))) ?_
                                refine sq_yes rfl rfl (less_b g15) rfl (ev_load_i J ty9 rfl) ?_
                                refine sq_yes rfl rfl (less_b g15) rfl (ev_sneS J J) ?_
                                refine sq_ev rfl (ev_pickF (v := .raw _) (less_b g15) J) ?_
                                refine mvr J rfl ?_
                                refine sq_split 175 J (fun g16 => ?_) (fun g16 => ?_)
                                · skip
                                  have g16' := g16
                                  try simp only [qq] at g16'
                                  exact absurd g16 (by decide)
                                · skip
                                  have g16' := g16
                                  try simp only [qq] at g16'
                                  refine sq_yes rfl rfl (less_b g16) rfl (ev_mv (v := .raw _) J) ?_
                                  refine sq_yes rfl rfl (less_b g16) rfl (ev_neq J J) ?_
                                  refine sq_ev rfl (ev_pickF (v := .raw _) (less_b g16) J) ?_
                                  refine mvr J rfl ?_
                                  refine sq_split 179 J (fun g17 => ?_) (fun g17 => ?_)
                                  · skip
                                    have g17' := g17
                                    try simp only [qq] at g17'
                                    exact absurd g17 (by decide)
                                  · skip
                                    have g17' := g17
                                    try simp only [qq] at g17'
                                    refine sq_yes rfl rfl (less_b g17) rfl (ev_mv (v := .raw _) J) ?_
                                    refine sq_yes rfl rfl (less_b g17) rfl (ev_neq J J) ?_
                                    refine sq_ev rfl (ev_pickF (v := .raw _) (less_b g17) J) ?_
                                    refine mvr J rfl ?_
                                    refine sq_split 183 J (fun g18 => ?_) (fun g18 => ?_)
                                    · skip
                                      have g18' := g18
                                      try simp only [qq] at g18'
                                      exact absurd g18 (by decide)
                                    · skip
                                      have g18' := g18
                                      try simp only [qq] at g18'
                                      refine sq_yes rfl rfl (less_b g18) rfl (ev_mv (v := .raw _) J) ?_
                                      refine sq_yes rfl rfl (less_b g18) rfl (ev_neq J J) ?_
                                      refine sq_ev rfl (ev_pickF (v := .raw _) (less_b g18) J) ?_
                                      refine mvr J rfl ?_
                                      refine sq_split 187 J (fun g19 => ?_) (fun g19 => ?_)
                                      · skip
                                        have g19' := g19
                                        try simp only [qq] at g19'
                                        exact absurd g19 (by decide)
                                      · skip
                                        have g19' := g19
                                        try simp only [qq] at g19'
                                        refine sq_yes rfl rfl (less_b g19) rfl (ev_mv (v := .raw _) J) ?_
                                        refine sq_yes rfl rfl (less_b g19) rfl (ev_neq J J) ?_
                                        refine sq_ev rfl (ev_pickF (v := .raw _) (less_b g19) J) ?_
                                        refine mvr J rfl ?_
                                        refine sq_split 191 J (fun g20 => ?_) (fun g20 => ?_)
                                        · skip
                                          have g20' := g20
                                          try simp only [qq] at g20'
                                          exact absurd g20 (by decide)
                                        · skip
                                          have g20' := g20
                                          try simp only [qq] at g20'
                                          refine sq_yes rfl rfl (less_b g20) rfl (ev_mv (v := .raw _) J) ?_
                                          refine sq_yes rfl rfl (less_b g20) rfl (ev_neq J J) ?_
                                          refine sq_ev rfl (ev_pickF (v := .raw _) (less_b g20) J) ?_
                                          refine mvr J rfl ?_
                                          refine sq_split 195 J (fun g21 => ?_) (fun g21 => ?_)
                                          · skip
                                            have g21' := g21
                                            try simp only [qq] at g21'
                                            exact absurd g21 (by decide)
                                          · skip
                                            have g21' := g21
                                            try simp only [qq] at g21'
                                            refine sq_yes rfl rfl (less_b g21) rfl (ev_mv (v := .sl _ _) J) ?_
                                            refine sq_yes rfl rfl (less_b g21) rfl (ev_buildSlice (es := [[_]]) sf64 rfl rfl rfl rfl) ?_
                                            refine sq_yes rfl rfl (less_b g21) rfl (ev_call en47 J (same_pure [0] [0] (by decide) (by decide)) ⟨J, less_slx _ _, trivial⟩) ?_
                                            refine sq_yes rfl rfl (less_b g21) rfl (ev_not J) ?_
                                            refine sq_ev rfl (ev_pickF (v := .raw _) (less_b g21) J) ?_
                                            refine sq_nil ?_
                                            refine aw_cond J (fun c22 => ?_) (fun c22 => ?_)
                                            · skip
                                              have c22' := c22
                                              try simp only [qq] at c22'
                                              exact absurd c22 (by decide)
                                            · skip
                                              have c22' := c22
                                              try simp only [qq] at c22'
                                              refine aw_skip (aw_seq (aw_region (mvs rfl J (sq_ev rfl (ev_buildSlice (es := [[_], [_]]) sf117 rfl rfl rfl rfl) ?_))))
                                              refine sq_ev rfl (ev_call en82 J (sameW_pure [3, 1] [3, 1] (by decide) (by decide)) ⟨J, less_slx _ _, trivial⟩) ?_
                                              refine mvr J rfl ?_
                                              refine sq_split 204 J (fun g23 => ?_) (fun g23 => ?_)
                                              · skip
                                                have g23' := g23
                                                try simp only [qq] at g23'
                                                refine sq_yes rfl rfl (less_b g23) rfl (ev_mv (v := .raw _) J) ?_
                                                refine sq_yes rfl rfl (less_b g23) rfl (ev_eql J J) ?_
                                                refine sq_ev rfl (ev_pickT (v := .raw _) (less_b g23) J) ?_
                                                refine mvr J rfl ?_
                                                refine sq_split 208 J (fun g24 => ?_) (fun g24 => ?_)
                                                · skip
                                                  have g24' := g24
                                                  try simp only [qq] at g24'
                                                  refine sq_yes rfl rfl (less_b g24) rfl (ev_mv (v := .raw _) J) ?_
                                                  refine sq_yes rfl rfl (less_b g24) rfl (ev_eql J J) ?_
                                                  refine sq_ev rfl (ev_pickT (v := .raw _) (less_b g24) J) ?_
                                                  refine mvr J rfl ?_
                                                  refine sq_split 212 J (fun g25 => ?_) (fun g25 => ?_)
                                                  · skip
                                                    have g25' := g25
                                                    try simp only [qq] at g25'
                                                    refine sq_yes rfl rfl (less_b g25) rfl (ev_mv (v := .sl _ _) J) ?_
                                                    refine sq_yes rfl rfl (less_b g25) rfl (ev_buildSlice (es := [[_]]) sf64 rfl rfl rfl rfl) ?_
                                                    refine sq_yes rfl rfl (less_b g25) rfl (ev_call en47 J (same_pure [36] [36] (by decide) (by decide)) ⟨J, less_slx _ _, trivial⟩) ?_
                                                    refine sq_ev rfl (ev_pickT (v := .raw _) (less_b g25) J) ?_
                                                    refine mvr J rfl ?_
                                                    refine sq_split 217 J (fun g26 => ?_) (fun g26 => ?_)
                                                    · skip
                                                      have g26' := g26
                                                      try simp only [qq] at g26'
                                                      refine sq_yes rfl rfl (less_b g26) rfl (ev_load_agg J rfl ty81 rfl) ?_
                                                      refine sq_yes rfl rfl (less_b g26) rfl (ev_call en57 J (k57) ⟨J, trivial⟩) ?_
                                                      refine sq_yes rfl rfl (less_b g26) rfl (ev_seqS J J) ?_
                                                      refine sq_ev rfl (ev_pickT (v := .raw _) (less_b g26) J) ?_
                                                      refine asr J rfl (sq_nil (aw_ret ?_))
                                                      exact retQ_pure (v := .raw _) rfl rfl (Less.eq (by simp))
                                                    · skip
                                                      have g26' := g26
                                                      try simp only [qq] at g26'
                                                      exact absurd g26 (by decide)
                                                  · skip
                                                    have g25' := g25
                                                    try simp only [qq] at g25'
                                                    exact absurd g25 (by decide)
                                                · skip
                                                  have g24' := g24
                                                  try simp only [qq] at g24'
                                                  exact absurd g24 (by decide)
                                              · skip
                                                have g23' := g23
                                                try simp only [qq] at g23'
                                                exact absurd g23 (by decide)
end Go.Proofs.YtmbknoaneglilaaGreatDoor
