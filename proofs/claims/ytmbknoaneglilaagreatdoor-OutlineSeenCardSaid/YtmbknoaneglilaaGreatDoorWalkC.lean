/-
  A part of the proof: conditions: none beyond each theorem's own.
-/
import Derived.Test.YtmbknoaneglilaaGreatDoorWalkB
import Derived.Test.YtmbknoaneglilaaGreatDoorLogicD
import Derived.Test.YtmbknoaneglilaaGreatDoorSpecA
import Derived.Test.YtmbknoaneglilaaGreatDoorLogicE
import Derived.Test.YtmbknoaneglilaaGreatDoorLogicC
set_option linter.all false
set_option maxRecDepth 100000
set_option maxHeartbeats 8000000
namespace Go.Proofs.YtmbknoaneglilaaGreatDoor
open Go Go.Ab Ni Ol
instance en153 : EnT Tryz.prog 153 := ⟨Ent.of Tryz.func153 (by kernel_rfl) rfl⟩
theorem thA_cells (t : Th) : (thA t).cells = some (thC t) := rfl
theorem thC5 (t : Th) : (thC t).length = 5 := rfl
theorem thF_ix {f : FuncId} {cap : List AV} {q : Th → Bool} (E : List (Th)) (hE : E.length ≤ 1000000) (en : Ent Tryz.prog f) (hc : ∀ i, (hi : i < E.length) → APure Tryz.prog f (.agg [I E[i].rd.fig, I E[i].rd.p.near, I E[i].rd.p.x, I E[i].rd.p.y, strs E[i].sh] :: cap) (B (q E[i]))) (hp : AV.pureL cap = true) : APure Tryz.prog 153 [.sl 5 (E.map fun x => [I x.rd.fig, I x.rd.p.near, I x.rd.p.x, I x.rd.p.y, strs x.sh]), .fn (.func f) [] cap] (I (ixQ q E)) := by
  refine apure_of (rs := [.tmp 4]) Tryz.func153 rfl rfl (Nat.le_of_ble_eq_true rfl) (by simp [AV.pureL, AV.pureB, AV.pureE, pureE_map, hp]) (by first | rfl | (simp [AV.pureL, AV.pureB, AV.pureE, pureE_map])) fun e0 he0 => ?_
  refine W 4 ?_
  refine aw_loopk (ι := { k : Nat // k ≤ E.length ∧ ∀ i, (hi : i < E.length) → i < k → q E[i] = false }) [0, 1, 7] (fun i => [(8, I i.1)]) (fun H i => H) (fun i => E.length - i.1) (⟨0, Nat.zero_le _, by omega⟩) ⟨J, J, J, J, trivial⟩ rfl ?_
  rintro ⟨k, hk, hok⟩
  dsimp only [keepS, St.put, sget, slotsOf, nn1, nn2, nn3, nn4, nn5, nn6, Nat.reduceBEq, Nat.reduceAdd, nn7, nn8]
  refine W 1 ?_
  refine iff (fun c_9 c_9' => ?_) (fun c_9 c_9' => ?_)
  · skip
    have hkL : k < E.length := by omega
    refine W 7 ?_
    refine sq_ev rfl (ev_call en J (hc k hkL) ⟨J, LessL.rfl' _⟩) ?_
    refine W 0 ?_
    refine aw_cond J (fun c_16 => ?_) (fun c_16 => ?_)
    · skip
      have c_16' := c_16
      try simp only [qq] at c_16'
      refine W 2 ?_
      exact retQ_pure (v := .raw _) rfl rfl (Less.eq (by rw [ixQ_at hkL (by simpa using c_16') hok]))
    · skip
      have c_16' := c_16
      try simp only [qq] at c_16'
      refine W 2 ?_
      exact ⟨⟨k + 1, by omega, fun i hi h => (by by_cases e : i = k; (subst e; simpa using c_16'); exact hok i hi (by omega))⟩, by simp only; omega, Sub.slots ⟨J, J, J, J, trivial⟩⟩
  · skip
    refine W 1 ?_
    exact retQ_pure (v := .raw _) rfl rfl (Less.eq (by rw [ixQ_no fun i hi => hok i hi (by omega)]))
theorem thF_any {f : FuncId} {cap : List AV} {q : Th → Bool} (E : List (Th)) (hE : E.length ≤ 1000000) (en : Ent Tryz.prog f) (hc : ∀ i, (hi : i < E.length) → APure Tryz.prog f (.agg [I E[i].rd.fig, I E[i].rd.p.near, I E[i].rd.p.x, I E[i].rd.p.y, strs E[i].sh] :: cap) (B (q E[i]))) (hp : AV.pureL cap = true) : APure Tryz.prog 156 [.sl 5 (E.map fun x => [I x.rd.fig, I x.rd.p.near, I x.rd.p.x, I x.rd.p.y, strs x.sh]), .fn (.func f) [] cap] (B (E.any q)) := by
 refine apure_of (rs := [.tmp 4]) Tryz.func156 rfl rfl (Nat.le_of_ble_eq_true rfl) (by simp [AV.pureL, AV.pureB, AV.pureE, pureE_map, hp]) (by first | rfl | (simp [AV.pureL, AV.pureB, AV.pureE, pureE_map])) fun e0 he0 => ?_
 refine W 3 ?_
 refine cl A (thF_ix E hE en hc hp) ?_
 refine W 2 ?_
 exact retQ_pure (v := .raw _) rfl rfl (Less.eq (by rw [← ixQ_any]))
theorem clone_call (l : List Th) (hl : 0 < l.length) (hm : l.length ≤ 1000000) (H0 : List AObj) : ACall Tryz.prog 105 [ths l] H0 (fun y H' => ∃ cap rs, l.length ≤ cap ∧ y = .ret (.msl H0.length 0 l.length cap) ∧ H' = H0 ++ [.cells ((l.map thC).flatten ++ rs)]) := by
 refine acall_of (rs := [.tmp 2]) Tryz.func105 rfl rfl (Nat.le_of_ble_eq_true rfl) fun e0 he0 => ?_
 refine W 2 ?_
 refine sq_ev rfl (ev_sl_nil_ne sl146.h J (by simpa using hl) J) ?_
 refine W 0 ?_
 refine aw_cond J (fun c_4 => ?_) (fun c_4 => ?_)
 ·
  have c_4' := c_4
  try simp only [qq] at c_4'
  exact absurd c_4 (by decide)
 have c_4' := c_4
 try simp only [qq] at c_4'
 refine W 0 ?_
 refine sq_ev rfl (ev_buildSlice (es := []) sf146.h rfl rfl rfl rfl) ?_
 refine W 1 ?_
 refine sq_append_msl (xs := l.map thC) rfl sf146.h Tryz.underlying146 J J (by simpa using hl) (by simp; omega) (by simp; omega) fun cap hcap => ?_
 rw [List.length_map] at hcap
 refine sq_ev rfl (ev_as (v := .msl _ _ _ _) J) ?_
 refine W 0 ?_
 exact ⟨rfl, _, rfl, cap, _, hcap, congrArg (fun n => ARes.ret (.msl H0.length 0 n cap)) (List.length_map _), rfl⟩
theorem delete_call {q : Th → Bool} {f : FuncId} {cp : List AV} (L : List Th) (hL : L.length ≤ 1000000) (en : Ent Tryz.prog f) (hc : ∀ i, (hi : i < L.length) → APure Tryz.prog f (thA L[i] :: cp) (B (q L[i]))) (hp : AV.pureL cp = true) {k cap : Nat} {rs : List AV} {H0 : List AObj} (hk : H0[k]? = some (.cells ((L.map thC).flatten ++ rs))) (hcap : L.length ≤ cap) : ACall Tryz.prog 104 [.msl k 0 L.length cap, .fn (.func f) [] cp] H0 (fun y H' => y = .ret (.msl k 0 (L.filter fun t => !q t).length cap) ∧ ∃ rs' X, H' = H0.set k (.cells (((L.filter fun t => !q t).map thC).flatten ++ rs')) ++ X) := by
 refine acall_of (rs := [.tmp 4]) Tryz.func104 rfl rfl (Nat.le_of_ble_eq_true rfl) fun e0 he0 => ?_
 have hkA := lt_of_get? hk
 have hH0 : H0.set k (.cells ((L.map thC).flatten ++ rs)) ++ [] = H0 := by obtain ⟨h, hg⟩ := List.getElem?_eq_some_iff.1 hk; rw [List.append_nil, ← hg, List.set_getElem_self]
 refine W 3 ?_
 refine sq_ev rfl (ev_callQ en153.h J (AQuiet.lend (j := k) (n := L.length) (c := cap) (sz := 5) (es := L.map thC) (rest := rs) (thF_ix (q := q) L hL en hc hp) rfl (FzL.cons Fz.frozen (FzL.cons (Fz.same _) FzL.nil)) hk (by simp) (fun r hr => by obtain ⟨t, _, rfl⟩ := List.mem_map.1 hr; rfl)) ⟨J, J, trivial⟩) ?_
 refine W 3 ?_
 refine iff (fun c_12 c_12' => ?_) (fun c_12 c_12' => ?_)
 ·
  refine W 1 ?_
  refine sq_ev rfl (ev_as (v := .msl _ _ _ _) J) ?_
  refine sq_nil (aw_ret ?_)
  refine ⟨rfl, .msl k 0 L.length cap, rfl, ?_, rs, [], ?_⟩
  ·
   rw [ixQ_none c_12']
  rw [ixQ_none c_12']; exact hH0.symm
 obtain ⟨i0, hi0L, hi0, hqi, hno⟩ := ixQ_yes (q := q) (E := L) c_12'
 have hst := DelI.start hi0L hqi hno
 refine W 3 ?_
 refine aw_loopk (ι := { g : Nat × List Th × List AObj // DelI q L g.1 g.2.1 }) [0, 1] (fun g => [(5, I ((dk q L g.1.1).length : Nat)), (6, I g.1.1)]) (fun H g => H0.set k (.cells ((g.1.2.1.map thC).flatten ++ rs)) ++ g.1.2.2) (fun g => L.length - g.1.1) (⟨(i0 + 1, L, []), hst.1⟩) ⟨(by exact less_int (by simp only; rw [hi0, hst.2])), (by exact less_int (by simp only; rw [hi0]; omega)), J, J, trivial⟩ hH0 ?_
 rintro ⟨⟨j, Rw, X⟩, hI⟩
 dsimp only [keepS, St.put, sget, slotsOf, nn1, nn2, nn3, nn4, nn5, nn6, Nat.reduceBEq, Nat.reduceAdd, nn7, nn8]
 dsimp only at hI
 have hRl := hI.len
 have hjl := hI.le
 have hlt := hI.lt
 refine W 4 ?_
 refine iff (fun c_19 c_19' => ?_) (fun c_19 c_19' => ?_)
 ·
  have hjL : j < L.length := by omega
  have hjR : j < Rw.length := by omega
  have hRj := hI.get hjL hjR
  refine W 2 ?_
  refine sq_ev rfl (ev_index_msl sl146.h J J rfl hjL) ?_
  refine sq_ev rfl (ev_less (ev_loadRow (f := thC) thC5 hkA hjR J ty152.h) (Less.eq (b := thA L[j]) (by rw [hRj]))) ?_
  refine sq_allocP (H0 := H0.set k (.cells ((Rw.map thC).flatten ++ rs))) (X := X) rfl z152.h ?_
  refine sq_storeE (A := H0.set k (.cells ((Rw.map thC).flatten ++ rs))) (X := X) rfl rfl J J rfl ty152.h rfl rfl ?_
  refine sq_frz (A := H0.set k (.cells ((Rw.map thC).flatten ++ rs))) (X := X) [0, 1, 5, 6] 7 rfl ?_
  refine W 2 ?_
  refine sq_ev rfl (ev_call en J (hc j hjL) ⟨J, LessL.rfl' _⟩) ?_
  refine W 1 ?_
  refine aw_cond J (fun c_29 => ?_) (fun c_29 => ?_)
  ·
   have c_29' := c_29
   try simp only [qq] at c_29'
   have hqj : q L[j] = false := by simpa using c_29
   have hk2 := hI.keep hjL hqj
   refine W 3 ?_
   refine sq_ev rfl (ev_index_msl sl146.h J J rfl (by omega)) ?_
   refine sq_storeRow (A := H0) (X := X ++ [.dead]) (R := Rw) (rs := rs) (v := L[j]) (a := thA L[j]) (n := (dk q L j).length) (f := thC) (sz := 5) (bb := true) ?_ ?_ thC5 hkA ?_ ?_ ?_ ?_ ?_ ?_
   ·
    rfl
   ·
    rfl
   ·
    omega
   ·
    exact J
   ·
    exact J
   ·
    exact thA_cells _
   ·
    exact ty152.h
   refine V 6 ?_
   refine sq_nil ?_
   refine ⟨⟨(j + 1, Rw.set (dk q L j).length L[j], X ++ [.dead]), hk2.1⟩, by simp only; omega, ?_⟩
   refine Sub.slots ?_
   exact ⟨(by exact less_int (by first | (rw [hk2.2]; omega) | rw [hk3])), J, J, J, trivial⟩
  have c_29' := c_29
  try simp only [qq] at c_29'
  have hqj : q L[j] = true := by simpa using c_29
  have hk2 := hI.skip hjL hqj
  have hk3 := congrArg List.length (dk_no hjL hqj)
  refine V 3 ?_
  refine sq_nil ?_
  refine ⟨⟨(j + 1, Rw, X ++ [.dead]), hk2⟩, by simp only; omega, ?_⟩
  refine Sub.slots ?_
  exact ⟨(by exact less_int (by first | (rw [hk2.2]; omega) | rw [hk3])), J, J, J, trivial⟩
 obtain rfl : j = L.length := by omega
 refine W 2 ?_
 refine sq_ev rfl (ev_slice_lo sl146.h J J (by omega) (by omega)) ?_
 refine sq_clear (j := k) rfl rfl sf146.h J (row_look hkA) (by rw [List.length_append, fl_len thC5, ← Nat.add_mul, hRl]; exact Nat.le_trans (Nat.mul_le_mul_right _ (by omega)) (Nat.le_add_right _ _)) ?_
 refine W 2 ?_
 refine sq_ev rfl (ev_slice_msl sl146.h J J (by omega)) ?_
 refine sq_ev rfl (ev_as (v := .msl _ _ _ _) J) ?_
 refine sq_nil (aw_ret ?_)
 have hcl : (dk q L L.length).length ≤ Rw.length := by omega
 have htk : ((Rw.map thC).flatten ++ rs).take ((dk q L L.length).length * 5) = ((L.filter fun t => !q t).map thC).flatten := by
  rw [List.take_append_of_le_length (by rw [fl_len thC5]; exact Nat.mul_le_mul_right _ hcl), fl_take thC5 Rw hcl, hI.tk, dk_all]
 refine ⟨rfl, .msl k 0 (dk q L L.length).length cap, rfl, by rw [dk_all], List.replicate ((L.length - (dk q L L.length).length) * 5) .any ++ ((Rw.map thC).flatten ++ rs).drop ((dk q L L.length).length * 5 + (L.length - (dk q L L.length).length) * 5), X, (congrArg (fun l => (H0.set k (.cells ((Rw.map thC).flatten ++ rs)) ++ X).set k (.cells l)) (List.append_assoc _ _ _)).trans ?_⟩
 rw [htk, List.set_append_left _ _ (by simpa using hkA), List.set_set]
end Go.Proofs.YtmbknoaneglilaaGreatDoor
namespace Go.Proofs.YtmbknoaneglilaaGreatDoor
open Go Go.Ab Ni Ol
instance bi158 : BdI Tryz.prog 158 [.raw (.int .i64 0), .raw (.int .i64 0)] true [(0, 1), (1, 1)] 0 := ⟨by kernel_rfl⟩
instance en104 : EnT Tryz.prog 104 := ⟨Ent.of Tryz.func104 (by kernel_rfl) rfl⟩
instance en105 : EnT Tryz.prog 105 := ⟨Ent.of Tryz.func105 (by kernel_rfl) rfl⟩
instance en106 : EnT Tryz.prog 106 := ⟨Ent.of Tryz.func106 (by kernel_rfl) rfl⟩
instance en109 : EnT Tryz.prog 109 := ⟨Ent.of Tryz.func109 (by kernel_rfl) rfl⟩
instance en110 : EnT Tryz.prog 110 := ⟨Ent.of Tryz.func110 (by kernel_rfl) rfl⟩
instance fo158_0 : FoF Tryz.prog 158 0 0 3 := ⟨by kernel_rfl⟩
instance fo158_1 : FoF Tryz.prog 158 1 1 3 := ⟨by kernel_rfl⟩
instance sf149 : SlS Tryz.prog 149 158 2 16 := ⟨SlFact.of (by kernel_rfl)⟩
instance sl149 : SlE Tryz.prog 149 158 2 := ⟨by kernel_rfl⟩
instance ty158 : TyF Tryz.prog 158 true 2 := ⟨by kernel_rfl⟩
instance ud149 : UnD Tryz.prog 149 (.slice 158) := ⟨Tryz.underlying149⟩
instance z158 : ZeO Tryz.prog 158 [.raw (.int .i64 0), .raw (.int .i64 0)] := ⟨by kernel_rfl⟩
instance z3 : ZeO Tryz.prog 3 [.raw (.int .i64 0)] := ⟨by kernel_rfl⟩
instance z5 : ZeO Tryz.prog 5 [.raw (.int .u8 0)] := ⟨by kernel_rfl⟩
abbrev prs (l : List (Int × Int)) : AV := .sl 2 (l.map fun p => [I p.1, I p.2])
theorem inE_prs (n : Nat) (l : List (Int × Int)) : AV.inE n (l.map fun p => [I p.1, I p.2]) = true := inE_map fun x _ => by simp [AV.inL, AV.inB]
theorem chAt_get {s : Sg} {l : List (List UInt8)} (hs : stOK s = true) (hc : Clo s l) {k : Nat} (hk : (k : Int) < s.wide * s.high) :
    ∃ h1 : k / s.wide.toNat < l.length, ∃ h2 : k % s.wide.toNat < l[k / s.wide.toNat].length, chAt s.wide l k = l[k / s.wide.toNat][k % s.wide.toNat] := by
  have h := stOK_iff.1 hs
  obtain ⟨w, hw⟩ : ∃ w : Nat, s.wide = (w : Int) := ⟨s.wide.toNat, by omega⟩
  obtain ⟨g, hg⟩ : ∃ g : Nat, s.high = (g : Int) := ⟨s.high.toNat, by omega⟩
  have hl := hc.len
  rw [hw, hg] at hk
  rw [hg] at hl
  have hk' : k < w * g := by have : ((w * g : Nat) : Int) = (w : Int) * (g : Int) := by simp
                             omega
  have hwt : s.wide.toNat = w := by omega
  have hw0 : 0 < w := by omega
  rw [hwt]
  have h1 : k / w < l.length := by rw [hl, Int.toNat_natCast]; exact Nat.div_lt_of_lt_mul hk'
  have h2 : k % w < l[k / w].length := by rw [hc.row _ (List.getElem_mem h1), hwt]; exact Nat.mod_lt _ hw0
  refine ⟨h1, h2, ?_⟩
  unfold chAt
  rw [hw]
  have e1 : ((k : Int) / (w : Int)).toNat = k / w := by rw [← Int.natCast_ediv]; rfl
  have e2 : ((k : Int) % (w : Int)).toNat = k % w := by rw [← Int.natCast_emod]; rfl
  rw [e1, e2]
  simp [List.getD, List.getElem?_eq_getElem h1, List.getElem?_eq_getElem h2]
def chs (j : Nat) : UInt8 := if j = 0 then 35 else 46
def mostJ (wide : Int) (L : List Th) (n : Int) : Nat → Int
  | 0 => 0
  | j + 1 => max (mostJ wide L n j) (lenS (restOf wide L n (chs j)))
def nextR (x : Sn) (sight : List (List UInt8)) : (Int × Int) × Int :=
  if askOK x sight = true then (if anyOK x sight = true then (if (nextOf x sight).length = 0 then ((0, 0), 5) else (bestOf (nextOf x sight), 0)) else ((0, 0), 7)) else ((0, 0), 2)
theorem nextR_0 {x : Sn} {sight : List (List UInt8)} (h : askOK x sight = false) : nextR x sight = ((0, 0), 2) := by unfold nextR; rw [h]; simp
theorem nextR_1 {x : Sn} {sight : List (List UInt8)} (h : askOK x sight = true) (h2 : anyOK x sight = false) : nextR x sight = ((0, 0), 7) := by unfold nextR; rw [h, h2]; simp
theorem nextR_2 {x : Sn} {sight : List (List UInt8)} (h : askOK x sight = true) (h2 : anyOK x sight = true) (h3 : (nextOf x sight).length = 0) : nextR x sight = ((0, 0), 5) := by unfold nextR; rw [h, h2, if_pos rfl, if_pos rfl, if_pos h3]
theorem nextR_3 {x : Sn} {sight : List (List UInt8)} (h : askOK x sight = true) (h2 : anyOK x sight = true) (h3 : ¬ (nextOf x sight).length = 0) : nextR x sight = (bestOf (nextOf x sight), 0) := by unfold nextR; rw [h, h2, if_pos rfl, if_pos rfl, if_neg h3]
theorem quo_nat {k : Nat} {w : Int} (h : 1 ≤ w ∧ w ≤ 16) (hk : k ≤ 1000000) : IntKind.i64.wrap ((k : Int).tdiv w) = ((k / w.toNat : Nat) : Int) := by
  obtain ⟨v, rfl⟩ : ∃ v : Nat, w = (v : Int) := ⟨w.toNat, by omega⟩
  rw [Int.tdiv_eq_ediv_of_nonneg (by omega), ← Int.natCast_ediv, Int.toNat_natCast]
  have := Nat.div_le_self k v
  have h2 : 0 ≤ ((k / v : Nat) : Int) := Int.natCast_nonneg _
  exact wr (by omega) (by omega)
theorem rem_nat {k : Nat} {w : Int} (h : 1 ≤ w) : (k : Int).tmod w = ((k % w.toNat : Nat) : Int) := by
  obtain ⟨v, rfl⟩ : ∃ v : Nat, w = (v : Int) := ⟨w.toNat, by omega⟩
  rw [Int.tmod_eq_emod_of_nonneg (by omega), ← Int.natCast_emod, Int.toNat_natCast]
theorem agrees_mem {x : Sn} {sight : List (List UInt8)} {t : Th} (h : t ∈ agrees x sight) : t ∈ rdgs x := (List.mem_filter.1 h).1
theorem looks_len (wide : Int) (L : List Th) (sight : List (List UInt8)) (k : Nat) : (looks wide L sight k).length ≤ k := by unfold looks; rw [List.length_map]; exact Nat.le_trans (List.length_filter_le _ _) (by simp)
theorem less_chs : Less (.slx 1 [[.raw (.int .u8 35)], [.raw (.int .u8 46)]]) (.sl 1 ((List.range 2).map fun j => [C (chs j)])) := Less.trans (less_slx _ _) (Less.eq rfl)
theorem next1_pure (t : Th) (row col : Nat) (ch : UInt8) (h1 : row < t.sh.length) (h2 : col < t.sh[row].length) (hl : t.sh.length ≤ 1000 ∧ t.sh[row].length ≤ 1000) : APure Tryz.prog 106 [thA t, .iptr [I row], .iptr [I col], .iptr [C ch]] (B (opp t.sh[row][col] ch)) := by
  refine apure_of (rs := [.tmp 5]) Tryz.func106 rfl rfl (Nat.le_of_ble_eq_true rfl) (by simp [AV.pureL, AV.pureB, AV.pureE, pureE_map]) (by first | rfl | (simp [AV.pureL, AV.pureB, AV.pureE, pureE_map])) fun e0 he0 => ?_
  refine W 2 ?_
  refine aw_draw 10 mo (by kernel_rfl) ?_
  refine WD 8 ?_
  refine dcl A (differ_pure _ _) ?_
  refine WD 1 ?_
  refine W 0 ?_
  exact retQ_pure (v := .raw _) rfl rfl J
theorem next2_pure (a b : Int × Int) : APure Tryz.prog 110 [.agg [I a.1, I a.2], .agg [I b.1, I b.2]] (B (decide (a.2 < b.2))) := by
 refine apure_of (rs := [.tmp 4]) Tryz.func110 rfl rfl (Nat.le_of_ble_eq_true rfl) (by simp [AV.pureL, AV.pureB, AV.pureE, pureE_map]) (by first | rfl | (simp [AV.pureL, AV.pureB, AV.pureE, pureE_map])) fun e0 he0 => ?_
 refine W 9 ?_
 exact retQ_pure (v := .raw _) rfl rfl J
theorem best_pure (l : List (Int × Int)) (hl : 0 < l.length) (hm : l.length ≤ 1000000) : APure Tryz.prog 109 [prs l, .fn (.func 110) [] []] (.agg [I (bestOf l).1, I (bestOf l).2]) := by
 refine apure_of (rs := [.cell 4 158]) Tryz.func109 rfl rfl (Nat.le_of_ble_eq_true rfl) (by simp [AV.pureL, AV.pureB, AV.pureE, pureE_map]) (by first | rfl | (simp [AV.pureL, AV.pureB, AV.pureE, pureE_map])) fun e0 he0 => ?_
 refine W 2 ?_
 refine sq_ev rfl (ev_index_map (k := 0) sl149.h J J rfl hl) ?_
 refine W 4 ?_
 refine sq_ev rfl (ev_less (ev_slice (lo := 1) (hi := l.length) sl149.h J J (by simp) (by omega) (by simp)) (Less.eq (b := prs (l.drop 1)) (by rw [List.take_of_length_le (by simp)]; simp only [prs, List.map_drop]))) ?_
 refine W 2 ?_
 refine aw_loopk (ι := { k : Nat // k + 1 ≤ l.length }) [1, 4, 5, 12, 13] (fun i => [(14, I i.1)]) (fun H i => H.set 1 (.cells [I (bestK l i.1).1, I (bestK l i.1).2])) (fun i => l.length - i.1) (⟨0, by omega⟩) ⟨J, J, J, J, J, J, trivial⟩ (by rw [bestK_0 hl]; rfl) ?_
 rintro ⟨k, hk⟩
 dsimp only [keepS, St.put, sget, slotsOf, nn1, nn2, nn3, nn4, nn5, nn6, Nat.reduceBEq, Nat.reduceAdd, nn7, nn8]
 refine W 1 ?_
 refine iff (fun c_15 c_15' => ?_) (fun c_15 c_15' => ?_)
 ·
  have hkl : k + 1 < l.length := by simp at c_15'; omega
  refine W 0 ?_
  refine sq_ev rfl (ev_less (ev_index_map (k := k) (xs := l.drop 1) sl149.h J J rfl (by simp; omega)) (Less.eq (b := .iptr [I l[k + 1].1, I l[k + 1].2]) (by simp [List.getElem_drop, Nat.add_comm]))) ?_
  refine W 6 ?_
  refine sq_ev rfl (ev_call en110.h J (next2_pure l[k + 1] (bestK l k)) ⟨J, J, trivial⟩) ?_
  refine W 0 ?_
  refine aw_cond J (fun c_21 => ?_) (fun c_21 => ?_)
  ·
   have c_21' := c_21
   try simp only [qq] at c_21'
   have eB : bestK l (k + 1) = l[k + 1] := by rw [bestK_succ hkl]; unfold better; rw [if_pos (by simpa using c_21)]
   refine W 4 ?_
   exact ⟨⟨k + 1, by omega⟩, by simp only; omega, Sub.fin 2 ⟨J, J, J, J, J, J, trivial⟩ (by rw [eB]; rfl) (by simp [slotsIn, objsIn, sget, keepS, AObj.inB, AV.inB, AV.inL, AV.inE, inE_map, St.op, St.put, inE_ths, inE_prs, -List.drop_one, -List.map_drop, inE_ints, inE_strs, inE_figs, inE_cloths, -List.map_append, -List.map_take, -List.map_map]) (by simp [slotsIn, objsIn, sget, keepS, AObj.inB, AV.inB, AV.inL, AV.inE, inE_map, St.op, St.put, inE_ths, inE_prs, -List.drop_one, -List.map_drop, inE_ints, inE_strs, inE_figs, inE_cloths, -List.map_append, -List.map_take, -List.map_map]) (by simp [he0])⟩
  have c_21' := c_21
  try simp only [qq] at c_21'
  have eB : bestK l (k + 1) = bestK l k := by rw [bestK_succ hkl]; unfold better; rw [if_neg (by simpa using c_21)]
  refine W 2 ?_
  exact ⟨⟨k + 1, by omega⟩, by simp only; omega, Sub.fin 2 ⟨J, J, J, J, J, J, trivial⟩ (by rw [eB]; rfl) (by simp [slotsIn, objsIn, sget, keepS, AObj.inB, AV.inB, AV.inL, AV.inE, inE_map, St.op, St.put, inE_ths, inE_prs, -List.drop_one, -List.map_drop, inE_ints, inE_strs, inE_figs, inE_cloths, -List.map_append, -List.map_take, -List.map_map]) (by simp [slotsIn, objsIn, sget, keepS, AObj.inB, AV.inB, AV.inL, AV.inE, inE_map, St.op, St.put, inE_ths, inE_prs, -List.drop_one, -List.map_drop, inE_ints, inE_strs, inE_figs, inE_cloths, -List.map_append, -List.map_take, -List.map_map]) (by simp [he0])⟩
 obtain rfl : k = l.length - 1 := by simp at c_15'; omega
 refine W 2 ?_
 exact retQ_res (vs := [.agg _]) rfl rfl ⟨resVar_cell rfl rfl ty158.h rfl, trivial⟩ (Less.eq (by rw [← bestK_all hl]; rfl))
theorem next_pure (x : Sn) (sight : List (List UInt8)) (hl : x.l.length ≤ 1000000) (hs : shp sight) : APure Tryz.prog 35 [stA x.s, figs x.l, rcA x.r, strs sight] (.tup [I (nextR x sight).1.1, I (nextR x sight).1.2, I (nextR x sight).2]) := by
 refine apure_of (rs := [.tmp 8, .tmp 9, .tmp 10]) Tryz.func35 rfl rfl (Nat.le_of_ble_eq_true rfl) (by simp [AV.pureL, AV.pureB, AV.pureE, pureE_map]) (by first | rfl | (simp [AV.pureL, AV.pureB, AV.pureE, pureE_map])) fun e0 he0 => ?_
 refine W 12 ?_
 refine cl A (isscene_pure x hl) ?_
 refine W 2 ?_
 refine sq_split 30 J (fun g2_3 => ?_) (fun g2_3 => ?_)
 ·
  have g2_3' := g2_3
  try simp only [qq] at g2_3'
  refine W 9 ?_
  exact retQ_pure (v := .tup [.raw _, .raw _, .raw _]) rfl rfl (less_tup ⟨Less.eq (by rw [nextR_0 (ask_f1 g2_3')]), Less.eq (by rw [nextR_0 (ask_f1 g2_3')]), Less.eq (by rw [nextR_0 (ask_f1 g2_3')]), trivial⟩)
 have g2_3' := g2_3
 try simp only [qq] at g2_3'
 refine W 2 ?_
 refine cy A (issight_pure x.s sight hs) ?_
 refine W 2 ?_
 refine aw_cond J (fun c_35 => ?_) (fun c_35 => ?_)
 ·
  have c_35' := c_35
  try simp only [qq] at c_35'
  refine W 3 ?_
  exact retQ_pure (v := .tup [.raw _, .raw _, .raw _]) rfl rfl (less_tup ⟨Less.eq (by rw [nextR_0 (ask_f2 (by simpa using c_35))]), Less.eq (by rw [nextR_0 (ask_f2 (by simpa using c_35))]), Less.eq (by rw [nextR_0 (ask_f2 (by simpa using c_35))]), trivial⟩)
 have c_35' := c_35
 try simp only [qq] at c_35'
 have hxo : snOK x = true := by cases h : snOK x <;> simp_all
 have hso : siOK x.s sight = true := by cases h : siOK x.s sight <;> simp_all
 have hst := (sn_facts hxo).2.1
 have hsi := sight_clo hst hso
 have hak := ask_t hxo hso
 have hlb := (sn_facts hxo).1
 have hsb := stOK_iff.1 hst
 have hwh := mulb (a := x.s.wide) (b := x.s.high) (A := 16) (B := 16) (by omega) (by omega) (by omega) (by omega)
 have hwp : 0 ≤ x.s.wide * x.s.high := Int.mul_nonneg (by omega) (by omega)
 refine W 2 ?_
 refine cl A (agreeing_pure hxo hsi) ?_
 refine W 7 ?_
 refine aw_cond J (fun c_43 => ?_) (fun c_43 => ?_)
 ·
  have c_43' := c_43
  try simp only [qq] at c_43'
  have hno : anyOK x sight = false := by unfold anyOK; simpa using c_43
  refine W 3 ?_
  exact retQ_pure (v := .tup [.raw _, .raw _, .raw _]) rfl rfl (less_tup ⟨Less.eq (by rw [nextR_1 hak hno]), Less.eq (by rw [nextR_1 hak hno]), Less.eq (by rw [nextR_1 hak hno]), trivial⟩)
 have c_43' := c_43
 try simp only [qq] at c_43'
 have hyes : anyOK x sight = true := by unfold anyOK; simpa using c_43
 refine V 7 ?_
 refine sq_nil (aw_block ?_)
 refine aw_sub (sub_token 14 2 J) ?_
 refine aw_loopk (ι := { k : Nat // k ≤ (x.s.wide * x.s.high).toNat }) [3, 4, 12, 48] (fun i => [(49, I i.1), (14, .own 3 2 (((looks x.s.wide (agrees x sight) sight i.1)).map fun p => [I p.1, I p.2]))]) (fun H i => H.set 3 (.tok (((looks x.s.wide (agrees x sight) sight i.1)).map fun p => [I p.1, I p.2]).length)) (fun i => (x.s.wide * x.s.high).toNat - i.1) (⟨0, Nat.zero_le _⟩) ⟨J, J, J, J, J, J, trivial⟩ rfl ?_
 rintro ⟨k, hk⟩
 dsimp only [keepS, St.put, sget, slotsOf, nn1, nn2, nn3, nn4, nn5, nn6, Nat.reduceBEq, Nat.reduceAdd, nn7, nn8]
 have hlk := looks_len x.s.wide (agrees x sight) sight k
 refine W 1 ?_
 refine iff (fun c_50 c_50' => ?_) (fun c_50 c_50' => ?_)
 ·
  have hkn : (k : Int) < x.s.wide * x.s.high := by omega
  obtain ⟨hrow, hcol, hch⟩ := chAt_get hst hsi hkn
  have hsl := hs.2 _ (List.getElem_mem hrow)
  have hsl1 := hs.1
  have hq := Nat.div_le_self k x.s.wide.toNat
  have hm := Nat.mod_le k x.s.wide.toNat
  refine W 2 ?_
  refine aw_drawc [8, 9] [10, 11] _ mo (by kernel_rfl) (HSub.refl _) ?_
  refine dc_ev rfl (ev_mv (v := .raw _) J) ?_
  first | refine dc_ev rfl (ev_fieldAddr fo23_0.h J) ?_ | refine dc_ev rfl (ev_fieldAddr_i fo23_0.h J) ?_
  first | refine dc_ev rfl (ev_load J rfl ty3.h rfl) ?_ | refine dc_ev rfl (ev_load_i J ty3.h rfl) ?_
  refine dc_ev rfl (ev_quo (q := ((k / x.s.wide.toNat : Nat) : Int)) J J (by omega) (quo_nat (by omega) (by omega))) ?_
  refine dc_ev rfl (ev_mv (v := .raw _) J) ?_
  first | refine dc_ev rfl (ev_fieldAddr fo23_0.h J) ?_ | refine dc_ev rfl (ev_fieldAddr_i fo23_0.h J) ?_
  first | refine dc_ev rfl (ev_load J rfl ty3.h rfl) ?_ | refine dc_ev rfl (ev_load_i J ty3.h rfl) ?_
  refine dc_ev rfl (ev_less (ev_rem J J (by omega)) (less_int (rem_nat (by omega)))) ?_
  refine dc_alloc rfl rfl z3.h ?_
  refine dc_alloc rfl rfl z3.h ?_
  refine dc_eff rfl rfl (eff_store rfl J J rfl rfl ty3.h rfl rfl) (by apply HL.sub; repeat' (first | exact HL.nil _ | apply HL.same | apply HL.tok)) ?_
  refine dc_eff rfl rfl (eff_store rfl J J rfl rfl ty3.h rfl rfl) (by apply HL.sub; repeat' (first | exact HL.nil _ | apply HL.same | apply HL.tok)) ?_
  refine dc_nil (aw_seq (aw_seq ?_))
  refine aw_sub (sub_iptrK [3, 4, 12, 14, 15, 17, 48, 49] 16 (j := 4) (l := [I ((k / x.s.wide.toNat : Nat) : Int)]) rfl rfl) ?_
  refine aw_sub (sub_iptrK [3, 4, 12, 14, 15, 16, 48, 49] 17 (j := 5) (l := [I ((k % x.s.wide.toNat : Nat) : Int)]) rfl rfl) ?_
  refine aw_draw 7 mo (by kernel_rfl) ?_
  refine WD 2 ?_
  refine dr_ev rfl (ev_index_map (k := k / x.s.wide.toNat) sl24.h J J rfl hrow) ?_
  refine WD 4 ?_
  refine W 0 ?_
  refine ifn (fun c_66 c_66' => ?_) (fun c_66 c_66' => ?_)
  ·
   have eS : ((looks x.s.wide (agrees x sight) sight (k + 1))).map (fun p => [I p.1, I p.2]) = ((looks x.s.wide (agrees x sight) sight k)).map (fun p => [I p.1, I p.2]) := by rw [looks_succ, if_neg (by rw [hch]; rw [dec63n] at c_66; simpa using c_66)]
   refine W 2 ?_
   exact ⟨⟨k + 1, by omega⟩, by simp only; omega, Sub.fin 4 ⟨J, Less.eq (b := .own 3 2 (((looks x.s.wide (agrees x sight) sight (k + 1))).map fun p => [I p.1, I p.2])) (by rw [eS] <;> rfl), J, J, J, J, trivial⟩ (congrArg (fun n => [_, _, _, AObj.tok n]) (congrArg List.length eS.symm)) (by simp [slotsIn, objsIn, sget, keepS, AObj.inB, AV.inB, AV.inL, AV.inE, inE_map, St.op, St.put, inE_ths, inE_prs, -List.drop_one, -List.map_drop, inE_ints, inE_strs, inE_figs, inE_cloths, -List.map_append, -List.map_take, -List.map_map]) (by simp [slotsIn, objsIn, sget, keepS, AObj.inB, AV.inB, AV.inL, AV.inE, inE_map, St.op, St.put, inE_ths, inE_prs, -List.drop_one, -List.map_drop, inE_ints, inE_strs, inE_figs, inE_cloths, -List.map_append, -List.map_take, -List.map_map]) (by simp [he0])⟩
  have hfree : chAt x.s.wide sight (k : Int) = 63 := by rw [hch]; rw [dec63n] at c_66; simpa using c_66
  refine W 1 ?_
  refine sq_ev rfl (ev_buildSlice (es := [[_], [_]]) sf92.h rfl rfl rfl rfl) ?_
  refine W 2 ?_
  refine aw_loopk (ι := { j : Nat // j ≤ 2 }) [3, 4, 12, 14, 15, 16, 17, 48, 49, 67, 68] (fun g => [(18, I (mostJ x.s.wide (agrees x sight) (k : Int) g.1)), (69, I g.1)]) (fun H g => H) (fun g => 2 - g.1) (⟨0, by omega⟩) ⟨J, J, J, J, J, J, J, J, J, J, J, J, J, trivial⟩ rfl ?_
  rintro ⟨j, hj⟩
  dsimp only [keepS, St.put, sget, slotsOf, nn1, nn2, nn3, nn4, nn5, nn6, Nat.reduceBEq, Nat.reduceAdd, nn7, nn8]
  refine W 1 ?_
  refine iff (fun c_70 c_70' => ?_) (fun c_70 c_70' => ?_)
  ·
   have hj2 : j < 2 := by omega
   have hclo : ∀ i, (hi : i < (agrees x sight).length) → APure Tryz.prog 106 (thA (agrees x sight)[i] :: [.iptr [I ((k / x.s.wide.toNat : Nat) : Int)], .iptr [I ((k % x.s.wide.toNat : Nat) : Int)], .iptr [C (chs j)]]) (B (opp (chAt x.s.wide (agrees x sight)[i].sh (k : Int)) (chs j))) := fun i hi => (by have hcl := rdgs_clo hxo (agrees_mem (List.getElem_mem hi)); obtain ⟨q1, q2, q3⟩ := chAt_get hst hcl hkn; rw [q3]; exact next1_pure _ _ _ _ q1 q2 ⟨by rw [hcl.len]; omega, by rw [hcl.row _ (List.getElem_mem q1)]; omega⟩)
   refine W 0 ?_
   refine sq_ev rfl (ev_less (ev_index_map (k := j) sl92.h less_chs J rfl (by simpa using hj2)) (Less.eq (b := .iptr [C (chs j)]) (by simp))) ?_
   refine V 3 ?_
   refine sq_nil (aw_seq ?_)
   refine aw_sub (sub_iptrK [3, 4, 12, 14, 15, 16, 17, 18, 48, 49, 67, 68, 69] 20 (j := 6) (l := [C (chs j)]) rfl rfl) ?_
   refine W 1 ?_
   refine sq_call (first := []) (cap := []) (args := [ths (agrees x sight)]) rfl en105.h J ⟨J, trivial⟩ (clone_call (agrees x sight) (by simpa [anyOK] using hyes) (by have := agrees_len (sight := sight) hxo; omega) _) ?_ (by rintro v H' ⟨_, _, _, h, _⟩; cases h)
   rintro _ _ ⟨cap, rs, hcap, h, rfl⟩; cases h
   refine sq_ev rfl (ev_makeFunc) ?_
   refine sq_call (f := 104) (first := []) (cap := []) (args := [.msl 7 0 (agrees x sight).length cap, .fn (.func 106) [] [.iptr [I ((k / x.s.wide.toNat : Nat) : Int)], .iptr [I ((k % x.s.wide.toNat : Nat) : Int)], .iptr [C (chs j)]]]) rfl en104.h J ⟨J, J, trivial⟩ (delete_call (q := fun t => opp (chAt x.s.wide t.sh (k : Int)) (chs j)) (k := 7) (agrees x sight) (by have := agrees_len (sight := sight) hxo; omega) en106.h hclo rfl rfl hcap) ?_ (by rintro v H' ⟨h, _⟩; cases h)
   rintro _ _ ⟨h, rs2, X2, rfl⟩; cases h
   refine sq_ev rfl (ev_as (v := .msl _ _ _ _) J) ?_
   refine sq_nil ?_
   refine aw_sub (sub_freezeK [3, 4, 12, 14, 15, 16, 17, 18, 48, 49, 67, 68, 69] 21 (j := 7) (sz := 5) (es := (restOf x.s.wide (agrees x sight) (k : Int) (chs j)).map thC) (rest := rs2) rfl rfl (by simp [restOf]) (fun r hr => by obtain ⟨t, _, rfl⟩ := List.mem_map.1 hr; rfl)) ?_
   refine W 2 ?_
   refine sq_call (first := []) (cap := []) (args := [ths (restOf x.s.wide (agrees x sight) (k : Int) (chs j))]) rfl en108.h J ⟨J, trivial⟩ (seen_call (restOf x.s.wide (agrees x sight) (k : Int) (chs j)) (by have := agrees_len (sight := sight) hxo; exact Nat.le_trans (List.length_filter_le _ _) (by omega)) _) ?_ (by rintro v H' ⟨h, _⟩; cases h)
   rintro _ _ ⟨h, X3, rfl⟩; cases h
   refine sq_ev rfl (ev_less (ev_len_mp mt155 J (look_mid _ _ _)) (less_int (seenO_len _))) ?_
   refine sq_ev rfl (ev_max2 J J) ?_
   refine W 3 ?_
   exact ⟨⟨j + 1, by omega⟩, by simp only; omega, Sub.fin 6 ⟨J, J, J, J, J, J, J, J, J, J, J, J, J, trivial⟩ rfl (by simp [slotsIn, objsIn, sget, keepS, AObj.inB, AV.inB, AV.inL, AV.inE, inE_map, St.op, St.put, inE_ths, inE_prs, -List.drop_one, -List.map_drop, inE_ints, inE_strs, inE_figs, inE_cloths, -List.map_append, -List.map_take, -List.map_map]) (by simp [slotsIn, objsIn, sget, keepS, AObj.inB, AV.inB, AV.inL, AV.inE, inE_map, St.op, St.put, inE_ths, inE_prs, -List.drop_one, -List.map_drop, inE_ints, inE_strs, inE_figs, inE_cloths, -List.map_append, -List.map_take, -List.map_map]) (by simp [he0])⟩
  obtain rfl : j = 2 := by omega
  have eS : ((looks x.s.wide (agrees x sight) sight (k + 1))).map (fun p => [I p.1, I p.2]) = ((looks x.s.wide (agrees x sight) sight k)).map (fun p => [I p.1, I p.2]) ++ [[I (k : Nat), I (mostAt x.s.wide (agrees x sight) (k : Int))]] := by rw [looks_succ, if_pos hfree, List.map_append]; rfl
  refine W 4 ?_
  refine sq_ev rfl (ev_buildSlice (es := [[_, _]]) sf149.h rfl rfl rfl rfl) ?_
  first | refine sq_append rfl sf149.h Tryz.underlying149 rfl rfl J (Nat.succ_pos _) (by simp; omega) (by simp; omega) ?_ | refine sq_append rfl sf149.h Tryz.underlying149 rfl rfl (less_slx _ _) (Nat.succ_pos _) (by simp; omega) (by simp; omega) ?_
  refine W 3 ?_
  exact ⟨⟨k + 1, by omega⟩, by simp only; omega, Sub.fin 4 ⟨J, Less.eq (b := .own 3 2 (((looks x.s.wide (agrees x sight) sight (k + 1))).map fun p => [I p.1, I p.2])) (by rw [eS] <;> rfl), J, J, J, J, trivial⟩ (congrArg (fun n => [_, _, _, AObj.tok n]) (congrArg List.length eS.symm)) (by simp [slotsIn, objsIn, sget, keepS, AObj.inB, AV.inB, AV.inL, AV.inE, inE_map, St.op, St.put, inE_ths, inE_prs, -List.drop_one, -List.map_drop, inE_ints, inE_strs, inE_figs, inE_cloths, -List.map_append, -List.map_take, -List.map_map]) (by simp [slotsIn, objsIn, sget, keepS, AObj.inB, AV.inB, AV.inL, AV.inE, inE_map, St.op, St.put, inE_ths, inE_prs, -List.drop_one, -List.map_drop, inE_ints, inE_strs, inE_figs, inE_cloths, -List.map_append, -List.map_take, -List.map_map]) (by simp [he0])⟩
 obtain rfl : k = (x.s.wide * x.s.high).toNat := by omega
 refine W 3 ?_
 refine iff (fun c_92 c_92' => ?_) (fun c_92 c_92' => ?_)
 ·
  refine W 3 ?_
  exact retQ_pure (v := .tup [.raw _, .raw _, .raw _]) rfl rfl (less_tup ⟨Less.eq (by rw [nextR_2 hak hyes (by simpa [nextOf] using c_92')]), Less.eq (by rw [nextR_2 hak hyes (by simpa [nextOf] using c_92')]), Less.eq (by rw [nextR_2 hak hyes (by simpa [nextOf] using c_92')]), trivial⟩)
 refine W 1 ?_
 refine sq_ev rfl (ev_call en109.h J (best_pure (looks x.s.wide (agrees x sight) sight (x.s.wide * x.s.high).toNat) (by omega) (by omega)) ⟨less_own _ _ _, J, trivial⟩) ?_
 refine W 2 ?_
 refine aw_draw 7 mo (by kernel_rfl) ?_
 refine WD 7 ?_
 refine W 0 ?_
 exact retQ_pure (v := .tup [.raw _, .raw _, .raw _]) rfl rfl (less_tup ⟨Less.eq (by rw [nextR_3 hak hyes (by simpa [nextOf] using c_92')] <;> rfl), Less.eq (by rw [nextR_3 hak hyes (by simpa [nextOf] using c_92')] <;> rfl), Less.eq (by rw [nextR_3 hak hyes (by simpa [nextOf] using c_92')] <;> rfl), trivial⟩)
end Go.Proofs.YtmbknoaneglilaaGreatDoor
namespace Go.Proofs.YtmbknoaneglilaaGreatDoor
open Go Go.Ab Ni Ol
instance sl166 : SlE Tryz.prog 166 146 1 := ⟨by kernel_rfl⟩
instance ty166 : TyF Tryz.prog 166 false 1 := ⟨by kernel_rfl⟩
instance z166 : ZeO Tryz.prog 166 [.raw (.slice none 0 0)] := ⟨by kernel_rfl⟩
abbrev thss (L : List (List Th)) : AV := .sl 1 (L.map fun l => [ths l])
def ofK (x : Sn) (k i : Nat) : List Th := ofF i ((rdgs x).take k)
def byRow (x : Sn) (k : Nat) : List AV := (List.range x.l.length).map fun i => AV.own (3 + i) 5 ((ofK x k i).map thC)
def byTok (x : Sn) (k : Nat) : List AObj := (List.range x.l.length).map fun i => AObj.tok ((ofK x k i).map thC).length
def byT (x : Sn) (k : Nat) : List AObj := [.cells (snC x), .cells (byRow x k), .cells [.msl 1 0 x.l.length x.l.length]] ++ byTok x k
theorem byRow_len (x : Sn) (k : Nat) : (byRow x k).length = x.l.length := by simp [byRow]
theorem byTok_len (x : Sn) (k : Nat) : (byTok x k).length = x.l.length := by simp [byTok]
theorem byT_len (x : Sn) (k : Nat) : (byT x k).length = x.l.length + 3 := by simp [byT, byTok_len]
theorem byRow_get {x : Sn} {k f : Nat} (h : f < x.l.length) : (byRow x k)[f]? = some (.own (3 + f) 5 ((ofK x k f).map thC)) := by
  unfold byRow; rw [List.getElem?_map, List.getElem?_range h]; rfl
theorem byT_tok {x : Sn} {k f : Nat} (h : f < x.l.length) : (byT x k)[3 + f]? = some (.tok ((ofK x k f).map thC).length) := by
  unfold byT
  rw [List.getElem?_append_right (by simp), show 3 + f - [AObj.cells (snC x), .cells (byRow x k), .cells [.msl 1 0 x.l.length x.l.length]].length = f by simp]
  unfold byTok; rw [List.getElem?_map, List.getElem?_range h]; rfl
theorem ofK_step {x : Sn} {k i : Nat} (h : k < (rdgs x).length) : ofK x (k + 1) i = if (rdgs x)[k].rd.fig = i then ofK x k i ++ [(rdgs x)[k]] else ofK x k i := by
  unfold ofK; rw [List.take_succ_eq_append_getElem h, ofF_snoc]
theorem map_range_set {α : Type} {n f : Nat} {g g' : Nat → α} (h : f < n) (hg : ∀ i, i ≠ f → g' i = g i) : ((List.range n).map g).set f (g' f) = (List.range n).map g' := by
  apply List.ext_getElem
  · simp
  · intro i h1 h2
    rw [List.getElem_set]
    simp only [List.getElem_map, List.getElem_range]
    by_cases e : f = i
    · subst e; simp
    · rw [if_neg e, hg i (fun h => e h.symm)]
theorem byT_step {x : Sn} {k f : Nat} (hk : k < (rdgs x).length) (hf : (rdgs x)[k].rd.fig = f) (h : f < x.l.length) :
    ((byT x k).set (3 + f) (.tok ((ofK x k f).map thC ++ [thC (rdgs x)[k]]).length)).set 1 (.cells ((byRow x k).take (0 + f * 1) ++ [.own (3 + f) 5 ((ofK x k f).map thC ++ [thC (rdgs x)[k]])] ++ (byRow x k).drop (0 + f * 1 + 1))) = byT x (k + 1) := by
  have e1 : ofK x (k + 1) f = ofK x k f ++ [(rdgs x)[k]] := by rw [ofK_step hk, if_pos hf]
  have e2 : ∀ i, i ≠ f → ofK x (k + 1) i = ofK x k i := fun i hi => by rw [ofK_step hk, if_neg (by omega)]
  have e3 : (ofK x k f).map thC ++ [thC (rdgs x)[k]] = (ofK x (k + 1) f).map thC := by rw [e1, List.map_append]; rfl
  have r1 : (byRow x k).take (0 + f * 1) ++ [.own (3 + f) 5 ((ofK x k f).map thC ++ [thC (rdgs x)[k]])] ++ (byRow x k).drop (0 + f * 1 + 1) = byRow x (k + 1) := by
    rw [e3, Nat.zero_add, Nat.mul_one]
    have : (byRow x k).set f (.own (3 + f) 5 ((ofK x (k + 1) f).map thC)) = byRow x (k + 1) := by
      unfold byRow
      exact map_range_set (g' := fun i => AV.own (3 + i) 5 ((ofK x (k + 1) i).map thC)) h fun i hi => by rw [e2 i hi]
    rw [← this, List.set_eq_take_append_cons_drop, if_pos (by rw [byRow_len]; exact h)]; simp
  have r2 : (byTok x k).set f (.tok ((ofK x (k + 1) f).map thC).length) = byTok x (k + 1) := by
    unfold byTok
    exact map_range_set (g' := fun i => AObj.tok ((ofK x (k + 1) i).map thC).length) h fun i hi => by rw [e2 i hi]
  rw [r1, e3]
  unfold byT
  rw [List.set_append_right _ _ (by simp), show 3 + f - [AObj.cells (snC x), .cells (byRow x k), .cells [.msl 1 0 x.l.length x.l.length]].length = f by simp, r2]
  rfl
theorem ofK_len {x : Sn} (hx : snOK x = true) (k i : Nat) : (ofK x k i).length ≤ 1000 := by
  have h1 : (ofK x k i).length ≤ ((rdgs x).take k).length := List.length_filter_le _ _
  rw [List.length_take] at h1
  have := rdgs_mx hx
  omega
theorem row_end (x : Sn) : ((List.range x.l.length).map fun i => AV.sl 5 ((ofK x (rdgs x).length i).map thC)) = ((byF x).map fun l => [ths l]).flatten ++ [] := by
  have e : ∀ {α : Type} (g : α → AV) (l : List α), (l.map fun a => [g a]).flatten = l.map g := fun g l => by induction l with
    | nil => rfl
    | cons a l ih => simp [ih]
  rw [List.append_nil, e]
  unfold byF
  rw [List.map_map]
  refine List.map_congr_left fun i hi => ?_
  have : ofK x (rdgs x).length i = rdN x i := by unfold ofK; rw [List.take_length, ofF_rdgs (List.mem_range.1 hi)]
  rw [this]; rfl
theorem take1 {H : List AObj} {i : Nat} (h : H[i]? = some (.raw (.deferred (some [])))) : takeMarks H [.mark i] = some (H.set i (.raw (.deferred none))) := by simp [takeMarks, h]
theorem mk166 : ∀ n : Nat, n ≤ 6 → makeB Tryz.prog 166 n = some (List.replicate n (.slice none 0 0))
  | 0, _ => by kernel_rfl
  | 1, _ => by kernel_rfl
  | 2, _ => by kernel_rfl
  | 3, _ => by kernel_rfl
  | 4, _ => by kernel_rfl
  | 5, _ => by kernel_rfl
  | 6, _ => by kernel_rfl
  | n + 7, h => absurd h (by omega)
theorem in_byT {x : Sn} (k : Nat) : objsIn (x.l.length + 3) (byT x k) = true := by
  have h1 : ∀ (l : List Nat), (∀ i ∈ l, i < x.l.length) → AV.inL (x.l.length + 3) (l.map fun i => AV.own (3 + i) 5 ((ofK x k i).map thC)) = true := fun l => by
    induction l with
    | nil => intro _; rfl
    | cons i l ih =>
      intro h
      simp only [List.map_cons, AV.inL, AV.inB, inE_ths, Bool.and_true, Bool.and_eq_true, Nat.blt_eq]
      exact ⟨by have := h i (by simp); omega, ih fun j hj => h j (by simp [hj])⟩
  have h2 : ∀ (l : List Nat) (n : Nat), objsIn n (l.map fun i => AObj.tok ((ofK x k i).map thC).length) = true := fun l n => by
    induction l with
    | nil => rfl
    | cons i l ih => simp only [List.map_cons, objsIn, ih, Bool.and_true]; rfl
  unfold byT
  rw [objsIn_append, Bool.and_eq_true]
  refine ⟨?_, h2 _ _⟩
  simp only [objsIn, AObj.inB, Bool.and_true, Bool.and_eq_true]
  refine ⟨by simp [AV.inL, AV.inB, inE_figs], by unfold byRow; exact h1 _ fun i hi => List.mem_range.1 hi, by simp [AV.inL, AV.inB]⟩
theorem rd_fig {x : Sn} {k : Nat} (h : k < (rdgs x).length) : (rdgs x)[k].rd.fig < x.l.length := by
  obtain ⟨i, n, q, hi, _, _, e⟩ := rdgs_mem (List.getElem_mem h)
  rw [e]; exact hi
theorem byT_0 {x : Sn} : byT x 0 = ([AObj.cells (snC x), .cells ((List.range x.l.length).map fun i => AV.own (3 + i) 5 []), .cells [.msl 1 0 x.l.length x.l.length]] ++ List.replicate x.l.length (.tok 0)) := by
  have e : ∀ i, ofK x 0 i = [] := fun i => by simp [ofK, ofF]
  unfold byT byRow byTok
  simp only [e, List.map_nil, List.length_nil]
  congr 1
  simp [List.map_const']
theorem by_pure {x : Sn} (hxo : snOK x = true) : APure Tryz.prog 118 [snA x] (thss (byF x)) := by
  refine apure_of_marks (rs := [.tmp 2]) Tryz.func118 rfl rfl (Nat.le_of_ble_eq_true rfl) (by simp [AV.pureL, AV.pureB, AV.pureE, pureE_map]) (by simp [AV.pureL, AV.pureB, AV.pureE]; exact pureE_map fun l _ => by simp [AV.pureL, AV.pureB, pureE_ths]) fun e0 he0 => ?_
  have hlb := (sn_facts hxo).1
  refine W 5 ?_
  refine sq_make rfl (mk166 _ hlb.2) (by omega) J J ?_
  refine W 3 ?_
  refine cl A (readings_pure x) ?_
  refine sq_nil (aw_block ?_)
  refine aw_sub (s' := ⟨[(3, .ptr 2 0), (10, .fn (.func 169) [] [.iptr (snC x)])], byT x 0, []⟩) ?_ ?_
  · refine Sub.trans (sub_token_row 1 5 x.l.length (show some (AObj.cells ((List.replicate x.l.length (Value.slice none 0 0)).map .raw)) = some (AObj.cells (List.replicate x.l.length (AV.raw (.slice none 0 0)))) from by rw [List.map_replicate])) ?_
    rw [byT_0]
    exact Sub.slots ⟨J, J, trivial⟩
  refine aw_rangeFuncB [3] (xs := (rdgs x).map thA) (cl := clOf) (fun k => byT x k) ((rdgs x).map thA).length none (Nat.le_refl _) (fun _ => rfl) (fun h => absurd rfl h) rfl rfl J en169.h (readings_iter hxo) rfl (fun i => (byT_len x i).trans (byT_len x 0).symm) (fun k hk => by show objsIn (byT x 0).length _ = true; rw [byT_len]; exact in_byT k) (fun x hx => th_pure hx) rfl rfl (by decide) rfl rfl z152.h rfl ty152.h (fun x hx => th_cl _ hx) (by decide) (by show slotsIn (byT x 0).length [(3, AV.ptr 2 0)] = true; simp [slotsIn, AV.inB, byT_len]) ?_ ?_
  · intro l i x e0 hi hx he0
    obtain ⟨hk, rfl⟩ := ths_get hx
    have hal := rdgs_mx hxo
    have hfg := rd_fig hk
    have hfl := ofK_len hxo i (rdgs x)[i].rd.fig
    have htk := byT_tok (k := i) hfg
    have hbl : Nat.ble (0 + (rdgs x)[i].rd.fig * 1 + 1) (byRow x i).length = true := by rw [byRow_len]; exact Nat.ble_eq_true_of_le (by omega)
    dsimp only [keepS, St.put, sget, slotsOf, nn1, nn2, nn3, nn4, nn5, nn6, Nat.reduceBEq, Nat.reduceAdd, nn7, nn8]
    refine W 0 ?_
    refine aw_drawc [] [9, 12, 14] _ mo (by kernel_rfl) (HSub.mask [1] 0 _) ?_
    first | refine dc_ev rfl (ev_load J rfl ty166.h rfl) ?_ | refine dc_ev rfl (ev_load_i J ty166.h rfl) ?_
    first | refine dc_ev rfl (ev_fieldAddr fo152_0.h J) ?_ | refine dc_ev rfl (ev_fieldAddr_i fo152_0.h J) ?_
    first | refine dc_ev rfl (ev_fieldAddr fo73_0.h J) ?_ | refine dc_ev rfl (ev_fieldAddr_i fo73_0.h J) ?_
    first | refine dc_ev rfl (ev_load J rfl ty3.h rfl) ?_ | refine dc_ev rfl (ev_load_i J ty3.h rfl) ?_
    first | refine dc_ev rfl (ev_load J rfl ty166.h rfl) ?_ | refine dc_ev rfl (ev_load_i J ty166.h rfl) ?_
    first | refine dc_ev rfl (ev_fieldAddr fo152_0.h J) ?_ | refine dc_ev rfl (ev_fieldAddr_i fo152_0.h J) ?_
    first | refine dc_ev rfl (ev_fieldAddr fo73_0.h J) ?_ | refine dc_ev rfl (ev_fieldAddr_i fo73_0.h J) ?_
    first | refine dc_ev rfl (ev_load J rfl ty3.h rfl) ?_ | refine dc_ev rfl (ev_load_i J ty3.h rfl) ?_
    refine dc_ev rfl (ev_index_msl sl166.h J J rfl hfg) ?_
    refine dc_eff rfl rfl (eff_ev rfl (ev_load J rfl ty146.h (show (byRow x i)[0 + (rdgs x)[i].rd.fig * 1]? = some _ by rw [Nat.zero_add, Nat.mul_one]; exact byRow_get hfg))) (HSub.mask [1] 0 _) ?_
    first | refine dc_ev rfl (ev_load_agg J rfl ty152.h rfl) ?_ | refine dc_ev rfl (ev_load_agg_i J ty152.h (by exact Nat.le_of_ble_eq_true rfl)) ?_
    refine dc_ev rfl (ev_buildSlice (es := [[_, _, _, _, _]]) sf146.h rfl rfl rfl rfl) ?_
    refine dc_eff rfl rfl (eff_append rfl sf146.h Tryz.underlying146 rfl htk (less_slx _ _) (by simp; omega) (by simp; omega)) (HSub.set_tok (HSub.mask [1] 0 _) htk _) ?_
    refine dc_ev rfl (ev_index_msl sl166.h J J rfl hfg) ?_
    refine dc_eff rfl rfl (eff_store (j := 1) (off := 0 + (rdgs x)[i].rd.fig * 1) (l := byRow x i) rfl J J rfl (show ((byT x i).set (3 + (rdgs x)[i].rd.fig) _)[1]? = some (.cells (byRow x i)) by rw [List.getElem?_set_ne (by omega)]; rfl) ty146.h rfl hbl) (HSub.set_un (HSub.set_tok (HSub.mask [1] 0 _) htk _) (.inl rfl) _) ?_
    refine dc_nil ?_
    exact ⟨⟨[], by rw [List.append_nil]; exact byT_step hk rfl hfg⟩, rfl, by split <;> rfl⟩
  · rintro _ rfl
    have hfull : ((rdgs x).map thA).length = (rdgs x).length := by simp
    rw [hfull]
    refine W 1 ?_
    refine sq_sub (sub_owns (b := 1) (f := fun i => (ofK x (rdgs x).length i).map thC) (j := fun i => 3 + i) (List.range x.l.length) rfl) ?_
    refine sq_sub (sub_freezeK [] 26 (j := 1) (sz := 1) (es := (byF x).map fun l => [ths l]) (rest := []) rfl (show some (AObj.cells _) = _ by rw [row_end]) (by simp [byF]) (fun r hr => by obtain ⟨t, _, rfl⟩ := List.mem_map.1 hr; rfl)) ?_
    refine ass rfl J ?_
    refine W 0 ?_
    exact retQM_pure (v := .sl _ _) (take1 (show (((byT x (rdgs x).length ++ [AObj.raw (.deferred (some []))]).set 1 _).set 1 _)[(byT x 0).length]? = _ by rw [List.getElem?_set_ne (by rw [byT_len]; omega), List.getElem?_set_ne (by rw [byT_len]; omega), List.getElem?_append_right (by rw [byT_len, byT_len]; exact Nat.le_refl _), byT_len, byT_len]; simp)) rfl J
end Go.Proofs.YtmbknoaneglilaaGreatDoor
namespace Go.Proofs.YtmbknoaneglilaaGreatDoor
open Go Go.Ab Ni Ol
instance bi203 : BdI Tryz.prog 203 [.raw (.int .i64 0), .raw (.int .i64 0)] true [(0, 1), (1, 1)] 0 := ⟨by kernel_rfl⟩
instance en118 : EnT Tryz.prog 118 := ⟨Ent.of Tryz.func118 (by kernel_rfl) rfl⟩
instance en119 : EnT Tryz.prog 119 := ⟨Ent.of Tryz.func119 (by kernel_rfl) rfl⟩
instance en156 : EnT Tryz.prog 156 := ⟨Ent.of Tryz.func156 (by kernel_rfl) rfl⟩
instance en157 : EnT Tryz.prog 157 := ⟨Ent.of Tryz.func157 (by kernel_rfl) rfl⟩
instance ni203 : NiF Tryz.prog 203 := ⟨by kernel_rfl⟩
theorem byF_len (x : Sn) : (byF x).length = x.l.length := by simp [byF]
theorem byF_mem {x : Sn} {i : Nat} (hi : i < (byF x).length) {t : Th} (ht : t ∈ (byF x)[i]) : t ∈ rdgs x := by
  simp only [byF, List.getElem_map, List.getElem_range] at ht
  unfold rdgs
  exact List.mem_flatMap.2 ⟨i, List.mem_range.2 (by rw [byF_len] at hi; exact hi), ht⟩
theorem byF_mx {x : Sn} (hx : snOK x = true) {i : Nat} (hi : i < (byF x).length) : (byF x)[i].length ≤ 36 := by
  obtain ⟨h1, h2, h3, _⟩ := sn_facts hx
  have h4 := rcOK_facts h3
  simp only [byF, List.getElem_map, List.getElem_range]
  rw [rdN_len]
  have a1 : nN x ≤ 6 := by unfold nN; omega
  have a2 : nX x ≤ 6 := by unfold nX; omega
  exact Nat.mul_le_mul a1 a2
theorem byF_fit {x : Sn} (hx : snOK x = true) {t u : Th} (ht : t ∈ rdgs x) (hu : u ∈ rdgs x) : Fit t.sh u.sh := clo_fit (sn_facts hx).2.1 (rdgs_clo hx ht) (rdgs_clo hx hu)
theorem mists_no {a b : List Th} (h : ∀ j, (hj : j < a.length) → mist a[j] b = false) : mists a b = false := by
  unfold mists; rw [List.any_eq_false]
  intro t ht; obtain ⟨j, hj, rfl⟩ := List.getElem_of_mem ht; simp [h j hj]
theorem mists_yes {a b : List Th} {j : Nat} (hj : j < a.length) (h : mist a[j] b = true) : mists a b = true := by
  unfold mists; rw [List.any_eq_true]; exact ⟨_, List.getElem_mem hj, h⟩
def disR (x : Sn) (y : ARes) : Prop := match misOf x with
  | none => y = .ret (.tup [])
  | some (i, k) => y = .pan (.ifc 203 (.agg [I i, I k]))
theorem disR_none {x : Sn} (h : misOf x = none) : disR x (.ret (.tup [])) := by unfold disR; rw [h]
theorem disR_some {x : Sn} {i k : Nat} (h : misOf x = some (i, k)) : disR x (.pan (.ifc 203 (.agg [I i, I k]))) := by unfold disR; rw [h]
theorem inE_thss (n : Nat) (L : List (List Th)) : AV.inE n (L.map fun l => [ths l]) = true := inE_map fun l _ => by simp [AV.inL, AV.inB, inE_ths]
theorem mis1_pure (t u : Th) (hf : Fit t.sh u.sh) : APure Tryz.prog 157 [thA u, .iptr (thC t)] (B (agree t.sh u.sh)) := by
  refine apure_of (rs := [.tmp 3]) Tryz.func157 rfl rfl (Nat.le_of_ble_eq_true rfl) (by simp [AV.pureL, AV.pureB, AV.pureE, pureE_map]) (by first | rfl | (simp [AV.pureL, AV.pureB, AV.pureE, pureE_map])) fun e0 he0 => ?_
  refine W 6 ?_
  refine cl A (agree_pure hf) ?_
  refine W 1 ?_
  exact retQ_pure (v := .raw _) rfl rfl J
theorem mist_pure (t : Th) (l : List Th) (hl : l.length ≤ 1000000) (hf : ∀ u ∈ l, Fit t.sh u.sh) : APure Tryz.prog 119 [thA t, ths l] (B (mist t l)) := by
 refine apure_of (rs := [.tmp 4]) Tryz.func119 rfl rfl (Nat.le_of_ble_eq_true rfl) (by simp [AV.pureL, AV.pureB, AV.pureE, pureE_map]) (by first | rfl | (simp [AV.pureL, AV.pureB, AV.pureE, pureE_map])) fun e0 he0 => ?_
 refine V 2 ?_
 refine sq_nil (aw_seq ?_)
 refine aw_sub (sub_iptrK [1] 2 (j := 0) (l := thC t) rfl rfl) ?_
 refine W 2 ?_
 refine sq_ev rfl (ev_call en156.h J (thF_any (q := fun u => agree t.sh u.sh) l hl en157.h (fun i hi => mis1_pure t l[i] (hf _ (List.getElem_mem hi))) (by simp [AV.pureL, AV.pureB, AV.pureE, pureE_map])) ⟨J, J, trivial⟩) ?_
 refine W 1 ?_
 exact retQ_pure (v := .raw _) rfl rfl J
theorem distinct_pan {x : Sn} (hxo : snOK x = true) : APan Tryz.prog 116 [snA x] (disR x) := by
 refine APan.of_acall (by simp [AV.pureL, AV.pureB, AV.pureE, pureE_map]) (acall_of (rs := []) Tryz.func116 rfl rfl (Nat.le_of_ble_eq_true rfl) fun e0 he0 => ?_)
 have hbl := byF_len x
 have hlb := (sn_facts hxo).1
 refine W 2 ?_
 refine cl A (by_pure hxo) ?_
 refine W 4 ?_
 refine aw_loopk (ι := { i : Nat // i ≤ (byF x).length ∧ ∀ a, a < i → pairI (byF x) a = none }) [2, 10] (fun g => [(11, I g.1)]) (fun H g => H) (fun g => (byF x).length - g.1) (⟨0, Nat.zero_le _, by omega⟩) ⟨J, J, J, trivial⟩ rfl ?_
 rintro ⟨i, hi, hno⟩
 dsimp only [keepS, St.put, sget, slotsOf, nn1, nn2, nn3, nn4, nn5, nn6, Nat.reduceBEq, Nat.reduceAdd, nn7, nn8]
 refine W 1 ?_
 refine iff (fun c_12 c_12' => ?_) (fun c_12 c_12' => ?_)
 ·
  have hiL : i < (byF x).length := by omega
  have him := byF_mx hxo hiL
  refine W 5 ?_
  refine aw_loopk (ι := { k : Nat // i + 1 ≤ k ∧ k ≤ (byF x).length ∧ ∀ a, (ha : a < (byF x).length) → i < a → a < k → mists (byF x)[i] (byF x)[a] = false }) [2, 3, 10, 11] (fun g => [(4, I g.1)]) (fun H g => H) (fun g => (byF x).length - g.1) (⟨i + 1, Nat.le_refl _, by omega, fun a _ h1 h2 => absurd h2 (by omega)⟩) ⟨(by exact less_int (by simp)), J, J, J, J, trivial⟩ rfl ?_
  rintro ⟨k, hk0, hk, hno2⟩
  dsimp only [keepS, St.put, sget, slotsOf, nn1, nn2, nn3, nn4, nn5, nn6, Nat.reduceBEq, Nat.reduceAdd, nn7, nn8]
  refine W 4 ?_
  refine iff (fun c_19 c_19' => ?_) (fun c_19 c_19' => ?_)
  ·
   have hkL : k < (byF x).length := by omega
   refine W 6 ?_
   refine aw_loopk (ι := { j : Nat // j ≤ (byF x)[i].length ∧ ∀ a, (ha : a < (byF x)[i].length) → a < j → mist (byF x)[i][a] (byF x)[k] = false }) [2, 3, 4, 10, 11, 25, 26] (fun g => [(27, I g.1)]) (fun H g => H) (fun g => (byF x)[i].length - g.1) (⟨0, Nat.zero_le _, by omega⟩) ⟨J, J, J, J, J, J, J, J, trivial⟩ rfl ?_
   rintro ⟨j, hj, hno3⟩
   dsimp only [keepS, St.put, sget, slotsOf, nn1, nn2, nn3, nn4, nn5, nn6, Nat.reduceBEq, Nat.reduceAdd, nn7, nn8]
   refine W 1 ?_
   refine iff (fun c_28 c_28' => ?_) (fun c_28 c_28' => ?_)
   ·
    have hjL : j < (byF x)[i].length := by omega
    refine W 4 ?_
    refine aw_draw 6 mo (by kernel_rfl) ?_
    refine WD 5 ?_
    refine dcl A (mist_pure (byF x)[i][j] (byF x)[k] (by have := byF_mx hxo hkL; omega) (fun u hu => byF_fit hxo (byF_mem hiL (List.getElem_mem hjL)) (byF_mem hkL hu))) ?_
    refine dr_end ?_
    refine W 0 ?_
    refine aw_cond J (fun c_36 => ?_) (fun c_36 => ?_)
    ·
     have c_36' := c_36
     try simp only [qq] at c_36'
     refine W 4 ?_
     refine sq_panic J ?_
     exact ⟨rfl, .pan (.ifc 203 (.agg [I i, I k])), disR_some (pair_some hiL hkL (by omega) (mists_yes hjL c_36) hno2 hno), rfl, J⟩
    have c_36' := c_36
    try simp only [qq] at c_36'
    refine W 2 ?_
    exact ⟨⟨j + 1, by omega, fun a ha h => (by by_cases e : a = j; (subst e; exact c_36); exact hno3 a ha (by omega))⟩, by simp only; omega, Sub.fin 1 ⟨J, J, J, J, J, J, J, J, trivial⟩ rfl (by simp [slotsIn, objsIn, sget, keepS, AObj.inB, AV.inB, AV.inL, St.op, St.put, inE_thss, inE_ths, inE_figs, inE_strs, -List.map_append, -List.map_take, -List.map_map]) (by simp [slotsIn, objsIn, sget, keepS, AObj.inB, AV.inB, AV.inL, St.op, St.put, inE_thss, inE_ths, inE_figs, inE_strs, -List.map_append, -List.map_take, -List.map_map]) (by simp [he0])⟩
   refine V 3 ?_
   refine sq_nil ?_
   have hgood : mists (byF x)[i] (byF x)[k] = false := mists_no (fun a ha => hno3 a ha (by omega))
   exact ⟨⟨k + 1, by omega, by omega, fun a ha h1 h2 => (by by_cases e : a = k; (subst e; exact hgood); exact hno2 a ha h1 (by omega))⟩, by simp only; omega, Sub.slots ⟨(by exact less_int (by simp)), J, J, J, J, trivial⟩⟩
  refine V 2 ?_
  refine sq_nil ?_
  have hnoi : pairI (byF x) i = none := pairI_none hiL (fun a ha h1 => hno2 a ha h1 (by omega))
  exact ⟨⟨i + 1, by omega, fun a ha => (by by_cases e : a = i; (subst e; exact hnoi); exact hno a (by omega))⟩, by simp only; omega, Sub.slots ⟨J, J, J, trivial⟩⟩
 obtain rfl : i = (byF x).length := by omega
 refine W 0 ?_
 exact ⟨rfl, .tup [], rfl, .ret (.tup []), disR_none (pair_none fun a ha => hno a ha), rfl, J⟩
end Go.Proofs.YtmbknoaneglilaaGreatDoor
namespace Go.Proofs.YtmbknoaneglilaaGreatDoor
open Go Go.Ab Ni Ol
instance en115 : EnT Tryz.prog 115 := ⟨Ent.of Tryz.func115 (by kernel_rfl) rfl⟩
instance en116 : EnT Tryz.prog 116 := ⟨Ent.of Tryz.func116 (by kernel_rfl) rfl⟩
instance en155 : EnT Tryz.prog 155 := ⟨Ent.of Tryz.func155 (by kernel_rfl) rfl⟩
instance fo203_0 : FoF Tryz.prog 203 0 0 3 := ⟨by kernel_rfl⟩
instance fo203_1 : FoF Tryz.prog 203 1 1 3 := ⟨by kernel_rfl⟩
instance ni205 : NiF Tryz.prog 205 := ⟨by kernel_rfl⟩
instance ty203 : TyF Tryz.prog 203 true 2 := ⟨by kernel_rfl⟩
instance ty205 : TyF Tryz.prog 205 true 1 := ⟨by kernel_rfl⟩
instance ty34 : TyF Tryz.prog 34 false 1 := ⟨by kernel_rfl⟩
theorem un20 : Tryz.prog.underlying 20 = some (.interface #[]) := by kernel_rfl
instance z203 : ZeO Tryz.prog 203 [.raw (.int .i64 0), .raw (.int .i64 0)] := ⟨by kernel_rfl⟩
instance z205 : ZeO Tryz.prog 205 [.raw (.string ByteArray.empty)] := ⟨by kernel_rfl⟩
instance z34 : ZeO Tryz.prog 34 [.raw (.int .i64 0)] := ⟨by kernel_rfl⟩
theorem hsub_nil (H : List AObj) : HSub [] H := fun i o h => by simp at h
theorem adefer_none (i j k : Nat) (H : List AObj) : ADefer Tryz.prog 155 [.ptr i 0, .ptr j 0, .ptr k 0] H none (fun H' => H' = H) := by
  refine adefer_of Tryz.func155 rfl rfl (Nat.le_of_ble_eq_true rfl) rfl fun e0 he0 => ?_
  refine aw_block (aw_seq (aw_region (sq_ev rfl (ev_nil_nil un20 J J) ?_)))
  refine sq_nil ?_
  refine aw_true J ?_
  refine aw_region (asr J rfl (sq_nil ?_))
  exact ⟨.inl rfl, rfl, rfl⟩
theorem adefer_alike (i j k : Nat) (H : List AObj) (a b : Int) {u v w : AV} (hi : H[i]? = some (.cells [u])) (hj : H[j]? = some (.cells [v])) (hk : H[k]? = some (.cells [w])) (hij : i ≠ j) (hik : i ≠ k) (hjk : j ≠ k) :
    ADefer Tryz.prog 155 [.ptr i 0, .ptr j 0, .ptr k 0] H (some (.ifc 203 (.agg [I a, I b]))) (fun H' => ∃ X, H' = ((H.set i (.cells [I a])).set j (.cells [I b])).set k (.cells [I 7]) ++ X) := by
  refine adefer_of Tryz.func155 rfl rfl (Nat.le_of_ble_eq_true rfl) rfl fun e0 he0 => ?_
  rw [nil_pre H]
  refine aw_block (aw_seq (aw_region (sq_ev rfl (ev_ifc_eqnil un20 J J) ?_)))
  refine sq_nil ?_
  refine aw_false J ?_
  refine aw_seq (aw_region (sq_ev rfl (ev_assert_yes ni203.h J) ?_))
  refine xtr rfl J rfl (xtr rfl J rfl (sq_nil ?_))
  refine aw_true J ?_
  refine aw_seq (aw_region ?_)
  refine sq_allocP (H0 := H) (X := []) rfl z203.h ?_
  refine sq_storeE (A := H) (X := []) rfl rfl J J rfl ty203.h rfl rfl ?_
  refine sq_frz (A := H) (X := []) [0, 1, 2] 4 rfl ?_
  refine sq_nil ?_
  refine aw_drawc [] [4, 5, 6] [] mo (by kernel_rfl) (hsub_nil _) ?_
  refine dc_ev rfl (ev_fieldAddr_i fo203_0.h J) ?_
  refine dc_ev rfl (ev_load_i J ty3.h rfl) ?_
  refine dc_ev rfl (ev_fieldAddr_i fo203_1.h J) ?_
  refine dc_ev rfl (ev_load_i J ty3.h rfl) ?_
  have hi' : (H ++ ([] ++ [AObj.dead]))[i]? = some (.cells [u]) := lookL hi
  have hj' : ((H ++ ([] ++ [AObj.dead])).set i (.cells [I a]))[j]? = some (.cells [v]) := by rw [List.getElem?_set_ne hij]; exact lookL hj
  have hk' : (((H ++ ([] ++ [AObj.dead])).set i (.cells [I a])).set j (.cells [I b]))[k]? = some (.cells [w]) := by rw [List.getElem?_set_ne hjk, List.getElem?_set_ne hik]; exact lookL hk
  refine dc_eff rfl rfl (eff_store rfl J J rfl hi' ty3.h rfl rfl) (hsub_nil _) ?_
  refine dc_eff rfl rfl (eff_store rfl J J rfl hj' ty3.h rfl rfl) (hsub_nil _) ?_
  refine dc_eff rfl rfl (eff_store rfl J J rfl hk' ty34.h rfl rfl) (hsub_nil _) ?_
  refine dc_nil ?_
  refine ⟨.inl rfl, rfl, [.dead], ?_⟩
  show (((H ++ ([] ++ [AObj.dead])).set i (.cells [I a])).set j (.cells [I b])).set k (.cells [I 7]) = _
  have li := lt_of_get? hi
  have lj := lt_of_get? hj
  have lk := lt_of_get? hk
  rw [List.set_append_left _ _ li, List.set_append_left _ _ (by simpa using lj), List.set_append_left _ _ (by simpa using lk)]; simp only [List.append_nil, List.nil_append]
theorem adefer_book (i j k : Nat) (H : List AObj) (w : AV) {c : AV} (hk : H[k]? = some (.cells [c])) (hw : w.cells = some [w]) :
    ADefer Tryz.prog 155 [.ptr i 0, .ptr j 0, .ptr k 0] H (some (.ifc 205 (.agg [w]))) (fun H' => ∃ X, H' = H.set k (.cells [I 4]) ++ X) := by
  refine adefer_of Tryz.func155 rfl rfl (Nat.le_of_ble_eq_true rfl) rfl fun e0 he0 => ?_
  rw [nil_pre H]
  refine aw_block (aw_seq (aw_region (sq_ev rfl (ev_ifc_eqnil un20 J J) ?_)))
  refine sq_nil ?_
  refine aw_false J ?_
  refine aw_seq (aw_region (sq_ev rfl (ev_assert_no ni203.h z203.h rfl J) ?_))
  refine xtr rfl J rfl (xtr rfl J rfl (sq_nil ?_))
  refine aw_false J ?_
  refine aw_seq (aw_region (sq_ev rfl (ev_assert_yes ni205.h J) ?_))
  refine xtr rfl J rfl (xtr rfl J rfl (sq_nil ?_))
  refine aw_true J ?_
  refine aw_seq (aw_region ?_)
  refine sq_allocP (H0 := H) (X := []) rfl z205.h ?_
  refine sq_storeP (H0 := H) (j := 0) rfl J J rfl rfl ty205.h rfl rfl ?_
  refine sq_nil (aw_region ?_)
  refine sq_storeL (H0 := H) rfl J J rfl hk ty34.h rfl rfl ?_
  refine sq_nil ?_
  exact ⟨.inl rfl, rfl, [.cells [w]], by simp only [List.append_nil]; rfl⟩
inductive Gave : ARes → AV → Prop
  | ret (v : AV) : Gave (.ret v) (.tup [I 0, I 0, I 0])
  | alike (a b : Int) : Gave (.pan (.ifc 203 (.agg [I a, I b]))) (.tup [I a, I b, I 7])
  | book (w : AV) (hw : w.cells = some [w]) : Gave (.pan (.ifc 205 (.agg [w]))) (.tup [I 0, I 0, I 4])
theorem attempt_call {f : FuncId} {first caps : List AV} {H : List AObj} {Rd : ARes → List AObj → Prop} (he : Ent Tryz.prog f)
  (hdo : ACall Tryz.prog f (first ++ caps) (H ++ [.cells [I 0], .cells [I 0], .cells [I 0]]) fun x H' => ∃ H1 X, H' = H1 ++ ([.cells [I 0], .cells [I 0], .cells [I 0]] ++ X) ∧ H1.length = H.length ∧ Rd x H1 ∧ ∃ v, Gave x v) :
  ACall Tryz.prog 115 [.fn (.func f) first caps] H fun x H' => ∃ y v H1 X, x = .ret v ∧ Gave y v ∧ Rd y H1 ∧ H' = H1 ++ X := by
 refine acall_of_defer (rs := [.cell 2 3, .cell 3 3, .cell 4 34]) Tryz.func115 rfl rfl (Nat.le_of_ble_eq_true rfl) en155.h fun e0 he0 => ?_
 rw [nil_pre H] at he0 ⊢
 refine aw_seq (aw_region ?_)
 refine sq_allocP (H0 := H) (X := []) rfl z3.h ?_
 refine sq_allocP (H0 := H) rfl z3.h ?_
 refine sq_allocP (H0 := H) rfl z34.h ?_
 refine sq_nil (aw_seq (aw_region (sq_ev rfl ev_makeFunc ?_)))
 refine sq_defer rfl rfl J ?_
 refine sq_nil (aw_seq (aw_region (sq_ev rfl (ev_mv (v := .fn _ _ _) J) ?_)))
 refine sq_call (f := f) (first := first) (cap := caps) (args := first ++ caps) rfl he J (by simpa using LessL.rfl' (first ++ caps)) hdo ?_ ?_
 ·
  rintro v _ ⟨H1, X, rfl, hl, hRd, hg⟩
  refine sq_nil (aw_seq (aw_region ?_))
  refine sq_storeP (H0 := H1) (j := 0) rfl (Less.eq (by rw [hl]; rfl)) J rfl rfl ty3.h rfl rfl ?_
  refine sq_storeP (H0 := H1) (j := 1) rfl (Less.eq (by rw [hl]; rfl)) J rfl rfl ty3.h rfl rfl ?_
  refine sq_storeP (H0 := H1) (j := 2) rfl (Less.eq (by rw [hl]; rfl)) J rfl rfl ty34.h rfl rfl ?_
  refine sq_nil (aw_ret ?_)
  refine ⟨_, _, rfl, adefer_none _ _ _ _, ?_⟩
  rintro _ rfl
  refine ⟨.tup [I 0, I 0, I 0], ?_, _, _, H1, _, rfl, Gave.ret v, hRd, rfl⟩
  refine resAV_of (vs := [I 0, I 0, I 0]) (Nat.le_of_ble_eq_true rfl) ?_
  refine ⟨resVar_cell1 (i := H1.length + 0) (off := 0) ?_ (lookP (H0 := H1) rfl) ty3.h rfl, resVar_cell1 (i := H1.length + 1) (off := 0) ?_ (lookP (H0 := H1) rfl) ty3.h rfl, resVar_cell1 (i := H1.length + 2) (off := 0) ?_ (lookP (H0 := H1) rfl) ty34.h rfl, trivial⟩
  ·
   rw [hl]; rfl
  ·
   rw [hl]; rfl
  rw [hl]; rfl
 rintro v _ ⟨H1, X, rfl, hl, hRd, u, hg⟩
 have hi : (H1 ++ ([AObj.cells [I 0], .cells [I 0], .cells [I 0]] ++ X))[H.length + 0]? = some (.cells [I 0]) := by rw [← hl]; exact lookP (by rfl)
 have hj : (H1 ++ ([AObj.cells [I 0], .cells [I 0], .cells [I 0]] ++ X))[H.length + 1]? = some (.cells [I 0]) := by rw [← hl]; exact lookP (by rfl)
 have hk : (H1 ++ ([AObj.cells [I 0], .cells [I 0], .cells [I 0]] ++ X))[H.length + 2]? = some (.cells [I 0]) := by rw [← hl]; exact lookP (by rfl)
 cases hg with
 | alike a b =>
  refine ⟨_, _, rfl, adefer_alike (H.length + 0) (H.length + 1) (H.length + 2) _ a b hi hj hk (by omega) (by omega) (by omega), ?_⟩
  rintro _ ⟨Y, rfl⟩
  have e1 : (((H1 ++ ([AObj.cells [I 0], .cells [I 0], .cells [I 0]] ++ X)).set (H.length + 0) (.cells [I a])).set (H.length + 1) (.cells [I b])).set (H.length + 2) (.cells [I 7]) ++ Y = H1 ++ ([.cells [I a], .cells [I b], .cells [I 7]] ++ (X ++ Y)) := by
   rw [← hl, setP, setP, setP]; simp
  rw [e1]
  refine ⟨.tup [I a, I b, I 7], ?_, _, _, H1, _, rfl, Gave.alike a b, hRd, rfl⟩
  refine resAV_of (vs := [I a, I b, I 7]) (Nat.le_of_ble_eq_true rfl) ?_
  refine ⟨resVar_cell1 (i := H1.length + 0) (off := 0) ?_ (lookP (H0 := H1) rfl) ty3.h rfl, resVar_cell1 (i := H1.length + 1) (off := 0) ?_ (lookP (H0 := H1) rfl) ty3.h rfl, resVar_cell1 (i := H1.length + 2) (off := 0) ?_ (lookP (H0 := H1) rfl) ty34.h rfl, trivial⟩
  ·
   rw [hl]; rfl
  ·
   rw [hl]; rfl
  rw [hl]; rfl
 | book w hw =>
  refine ⟨_, _, rfl, adefer_book (H.length + 0) (H.length + 1) (H.length + 2) _ w hk hw, ?_⟩
  rintro _ ⟨Y, rfl⟩
  have e1 : (H1 ++ ([AObj.cells [I 0], .cells [I 0], .cells [I 0]] ++ X)).set (H.length + 2) (.cells [I 4]) ++ Y = H1 ++ ([.cells [I 0], .cells [I 0], .cells [I 4]] ++ (X ++ Y)) := by
   rw [← hl, setP]; simp
  rw [e1]
  refine ⟨.tup [I 0, I 0, I 4], ?_, _, _, H1, _, rfl, Gave.book w hw, hRd, rfl⟩
  refine resAV_of (vs := [I 0, I 0, I 4]) (Nat.le_of_ble_eq_true rfl) ?_
  refine ⟨resVar_cell1 (i := H1.length + 0) (off := 0) ?_ (lookP (H0 := H1) rfl) ty3.h rfl, resVar_cell1 (i := H1.length + 1) (off := 0) ?_ (lookP (H0 := H1) rfl) ty3.h rfl, resVar_cell1 (i := H1.length + 2) (off := 0) ?_ (lookP (H0 := H1) rfl) ty34.h rfl, trivial⟩
  ·
   rw [hl]; rfl
  ·
   rw [hl]; rfl
  rw [hl]; rfl
def misA (x : Sn) : Int × Int × Int := match misOf x with
 | none => (0, 0, 0)
 | some (i, k) => (i, k, 7)
theorem attdis_call {x : Sn} {H : List AObj} (hxo : snOK x = true) (hin : objsIn H.length H = true) :
  ACall Tryz.prog 115 [.fn (.func 116) [snA x] []] H fun y H' => H' = H ∧ y = .ret (.tup [I (misA x).1, I (misA x).2.1, I (misA x).2.2]) := by
 refine ACall.drop (R := fun y => y = .ret (.tup [I (misA x).1, I (misA x).2.1, I (misA x).2.2])) ?_ (Nat.le_refl _) hin (fun y hy => by subst hy; rfl)
 refine (attempt_call (first := [snA x]) (caps := []) (Rd := fun y H1 => H1 = H ∧ disR x y) en116.h (((distinct_pan hxo) _).mono ?_)).mono ?_
 ·
  rintro y _ ⟨rfl, h⟩
  refine ⟨H, [], by simp, rfl, ⟨rfl, h⟩, ?_⟩
  unfold disR at h
  cases hm : misOf x with
  | none => rw [hm] at h; simp only at h; subst h; exact ⟨_, Gave.ret _⟩
  | some q => rw [hm] at h; obtain ⟨a, b⟩ := q; simp only at h; subst h; exact ⟨_, Gave.alike _ _⟩
 rintro y H' ⟨z, v, H1, X, rfl, hg, ⟨rfl, hR⟩, rfl⟩
 refine ⟨⟨X, rfl⟩, ?_⟩
 unfold disR at hR
 cases hm : misOf x with
 | none => rw [hm] at hR; simp only at hR; subst hR; cases hg; simp [misA, hm]
 | some q => rw [hm] at hR; obtain ⟨a, b⟩ := q; simp only at hR; subst hR; cases hg; simp [misA, hm]
end Go.Proofs.YtmbknoaneglilaaGreatDoor
