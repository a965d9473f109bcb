/-
  A part of the proof: conditions: none beyond each theorem's own.
-/
import Derived.Test.YtmbknoaneglilaaGreatDoorWalkD
import Derived.Test.YtmbknoaneglilaaGreatDoorLogicE
import Derived.Test.YtmbknoaneglilaaGreatDoorSpecA
import Derived.Test.YtmbknoaneglilaaGreatDoorLogicD
set_option linter.all false
set_option maxRecDepth 100000
set_option maxHeartbeats 8000000
namespace Go.Proofs.YtmbknoaneglilaaGreatDoor
open Go Go.Ab Ni Ol
instance bi208 : BdI Tryz.prog 208 [.raw (.int .i64 0), .raw (.int .i64 0), .raw (.int .i64 0), .raw (.int .i64 0), .raw (.int .i64 0), .raw (.int .i64 0)] true [(0, 6)] 0 := ⟨by kernel_rfl⟩
instance bi211 : BdI Tryz.prog 211 [.raw (.slice none 0 0)] true [(0, 1)] 0 := ⟨by kernel_rfl⟩
instance en121 : EnT Tryz.prog 121 := ⟨Ent.of Tryz.func121 (by kernel_rfl) rfl⟩
instance en122 : EnT Tryz.prog 122 := ⟨Ent.of Tryz.func122 (by kernel_rfl) rfl⟩
instance fo81_0 : FoF Tryz.prog 81 0 0 23 := ⟨by kernel_rfl⟩
instance fo81_1 : FoF Tryz.prog 81 1 6 45 := ⟨by kernel_rfl⟩
instance ni208 : NiF Tryz.prog 208 := ⟨by kernel_rfl⟩
instance sf209 : SlS Tryz.prog 209 213 1 16 := ⟨SlFact.of (by kernel_rfl)⟩
instance sl209 : SlE Tryz.prog 209 213 1 := ⟨by kernel_rfl⟩
instance ty213 : TyF Tryz.prog 213 false 1 := ⟨by kernel_rfl⟩
instance ud209 : UnD Tryz.prog 209 (.slice 213) := ⟨Tryz.underlying209⟩
instance ud3 : UnD Tryz.prog 3 (.int .i64) := ⟨Tryz.underlying3⟩
structure Bk where
  s : Sg
  l : List Fg
  deriving DecidableEq, Inhabited
abbrev bkC (b : Bk) : List AV := [I b.s.wide, I b.s.high, I b.s.far, I b.s.flame, I b.s.x, I b.s.y, figs b.l]
abbrev bkA (b : Bk) : AV := .agg (bkC b)
def rowsT (b : Bk) (k : Nat) : List (Option Fg) := none :: (b.l.take k).map some
def rowsB (b : Bk) : List (Option Fg) := rowsT b b.l.length
structure SmB (b : Bk) : Prop where
  head : ∀ n ∈ stL b.s, -1000000 ≤ n ∧ n ≤ 1000000
  row : ∀ f ∈ b.l, f.length ≤ 100000
  line : ∀ r ∈ rowsB b, (lineO b.s r).length ≤ 1000
  len : b.l.length ≤ 1000
theorem rowsT_succ {b : Bk} {k : Nat} (h : k < b.l.length) : rowsT b (k + 1) = rowsT b k ++ [some b.l[k]] := by
  unfold rowsT; rw [List.take_succ_eq_append_getElem h, List.map_append]; rfl
theorem rowsT_len {b : Bk} {k : Nat} (h : k ≤ b.l.length) : (rowsT b k).length = k + 1 := by simp [rowsT]; omega
theorem rowsB_mem {b : Bk} {r : Option Fg} (h : r ∈ rowsB b) : r = none ∨ ∃ f ∈ b.l, r = some f := by
  rcases List.mem_cons.1 h with h | h
  · exact .inl h
  · obtain ⟨x, hx, rfl⟩ := List.mem_map.1 h
    exact .inr ⟨x, List.mem_of_mem_take hx, rfl⟩
theorem line_pure {b : Bk} (sm : SmB b) {r : Option Fg} (h : r ∈ rowsB b) : APure Tryz.prog 158 [rowV b.s r] (S (lineO b.s r)) := by
  have hl := sm.line r h
  rcases rowsB_mem h with rfl | ⟨f, hf, rfl⟩
  · exact lineH_pure b.s sm.head (by have : (Lib.join (nameW none :: rowW b.s none) [32]).length ≤ 1000 := hl; omega)
  · exact lineP_pure b.s f (sm.row f hf) (by have : (Lib.join (nameW (some f) :: rowW b.s (some f)) [32]).length ≤ 1000 := hl; omega)
def linesB (b : Bk) : List (List UInt8) := (rowsB b).map (lineO b.s)
theorem linesB_len {b : Bk} (sm : SmB b) : ∀ l ∈ linesB b, l.length ≤ 1000 := fun l hl => by
  obtain ⟨r, hr, rfl⟩ := List.mem_map.1 hl
  exact sm.line r hr
def sealB (ls : List (List UInt8)) : List UInt8 := outT ls ls.length ++ [101, 110, 100, 32] ++ digs3 (ctT ls ls.length % 173) ++ [10]
def textB (b : Bk) : List UInt8 := sealB (linesB b)
theorem inE_rows (n : Nat) (s : Sg) (l : List (Option Fg)) : AV.inE n (l.map fun r => [rowV s r]) = true := inE_map fun x _ => by cases x <;> simp [rowV, AV.inL, AV.inB, inE_strs]
theorem decDigits_len : ∀ (m u : Nat), u < 10 ^ (m + 1) → (Lib.decDigits u).length ≤ m + 1
  | 0, u, h => by rw [Lib.decDigits, dif_pos (by simpa using h)]; simp
  | m + 1, u, h => by
    rw [Lib.decDigits]
    split
    · simp
    · rw [List.length_append]
      have : u / 10 < 10 ^ (m + 1) := by rw [Nat.pow_succ] at h; omega
      have := decDigits_len m (u / 10) this
      simp; omega
theorem itoa_len {n : Int} (h : -1000000 ≤ n ∧ n ≤ 1000000) : (Lib.itoa n).length ≤ 8 := by
  unfold Lib.itoa
  split
  · have := decDigits_len 6 n.natAbs (by omega)
    simp; omega
  · have := decDigits_len 6 n.toNat (by omega)
    omega
def bkOK (b : Bk) : Bool := stOK b.s && coOK b.l
theorem text_pure (b : Bk) (sm : SmB b) : APure Tryz.prog 122 [bkA b] (S (textB b)) := by
  refine apure_of (rs := [.tmp 2]) Tryz.func122 rfl rfl (Nat.le_of_ble_eq_true rfl) (by simp [AV.pureL, AV.pureB, AV.pureE, pureE_map]) (by first | rfl | (simp [AV.pureL, AV.pureB, AV.pureE, pureE_map])) fun e0 he0 => ?_
  refine W 6 ?_
  refine sq_ev rfl (ev_buildSlice (es := [[_]]) sf209.h rfl rfl rfl rfl) ?_
  refine V 5 ?_
  refine sq_nil (aw_block ?_)
  refine aw_sub (sub_token_slx 3 1 J) ?_
  refine aw_loopk (ι := { k : Nat // k ≤ b.l.length }) [18, 19] (fun i => [(20, I i.1), (3, .own 1 1 ((rowsT b i.1).map fun r => [rowV b.s r]))]) (fun H i => H.set 1 (.tok ((rowsT b i.1).map fun r => [rowV b.s r]).length)) (fun i => b.l.length - i.1) (⟨0, Nat.zero_le _⟩) ⟨J, J, J, J, trivial⟩ rfl ?_
  rintro ⟨k, hk⟩
  dsimp only [keepS, St.put, sget, slotsOf, nn1, nn2, nn3, nn4, nn5, nn6, Nat.reduceBEq, Nat.reduceAdd, nn7, nn8]
  have hrl := rowsT_len hk
  have hsl := sm.len
  refine W 1 ?_
  refine iff (fun c_21 c_21' => ?_) (fun c_21 c_21' => ?_)
  · skip
    have hk' : k < b.l.length := by omega
    have eS : (rowsT b (k + 1)).map (fun r => [rowV b.s r]) = (rowsT b k).map (fun r => [rowV b.s r]) ++ [[.ifc 211 (.agg [strs b.l[k]])]] := by rw [rowsT_succ hk', List.map_append]; rfl
    refine W 8 ?_
    refine sq_ev rfl (ev_buildSlice (es := [[_]]) sf209.h rfl rfl rfl rfl) ?_
    first | refine sq_append rfl sf209.h Tryz.underlying209 rfl rfl J (Nat.succ_pos _) (by simp; omega) (by simp; omega) ?_ | refine sq_append rfl sf209.h Tryz.underlying209 rfl rfl (less_slx _ _) (Nat.succ_pos _) (by simp; omega) (by simp; omega) ?_
    refine W 3 ?_
    exact ⟨⟨k + 1, by omega⟩, by simp only; omega, Sub.fin 2 ⟨J, Less.eq (b := .own 1 1 ((rowsT b (k + 1)).map fun r => [rowV b.s r])) (by rw [eS] <;> rfl), J, J, trivial⟩ (congrArg (fun n => [_, AObj.tok n]) (congrArg List.length eS.symm)) (by simp [slotsIn, objsIn, sget, keepS, AObj.inB, AV.inB, AV.inL, AV.inE, inE_map, inE_rows, inE_ints, inE_strs, inE_figs, inE_cloths, -List.map_append, -List.map_take, -List.map_map]) (by simp [slotsIn, objsIn, sget, keepS, AObj.inB, AV.inB, AV.inL, AV.inE, inE_map, inE_rows, inE_ints, inE_strs, inE_figs, inE_cloths, -List.map_append, -List.map_take, -List.map_map]) (by simp [he0])⟩
  · skip
    obtain rfl : k = b.l.length := by omega
    have hll0 : (linesB b).length = (rowsB b).length := by simp [linesB]
    have hrl2 : (rowsB b).length = b.l.length + 1 := rowsT_len (Nat.le_refl _)
    refine W 3 ?_
    refine sq_ev rfl (ev_len_map sl209.h (less_own _ _ _)) ?_
    refine V 1 ?_
    refine sq_nil (aw_block ?_)
    have hfull : rowsT b b.l.length = rowsB b := rfl
    rw [hfull]
    refine aw_loopk (ι := { i : Nat // i ≤ (rowsB b).length }) [31, 32] (fun i => [(33, I i.1), (6, S (outT (linesB b) i.1)), (7, I (ctT (linesB b) i.1))]) (fun H i => H) (fun i => (rowsB b).length - i.1) (⟨0, Nat.zero_le _⟩) ⟨J, J, J, J, J, trivial⟩ rfl ?_
    rintro ⟨i, hi⟩
    dsimp only [keepS, St.put, sget, slotsOf, nn1, nn2, nn3, nn4, nn5, nn6, Nat.reduceBEq, Nat.reduceAdd, nn7, nn8]
    have hol := outT_len (linesB_len sm) i (by omega)
    have hct := ctT_bd (by omega) (linesB_len sm) i (by omega)
    refine W 1 ?_
    refine iff (fun c_34 c_34' => ?_) (fun c_34 c_34' => ?_)
    · skip
      have hi2 : i < (rowsB b).length := by omega
      have hi3 : i < (linesB b).length := by omega
      have hll := linesB_len sm _ (List.getElem_mem hi3)
      have hle : (linesB b)[i] = lineO b.s (rowsB b)[i] := by simp [linesB]
      refine W 1 ?_
      refine sq_ev rfl (ev_index_map sl209.h (less_own _ _ _) J rfl (by omega)) ?_
      refine W 2 ?_
      refine sq_ev rfl (ev_as (v := rowV b.s _) J) ?_
      refine W 0 ?_
      refine sq_ev rfl (ev_mv (v := rowV b.s _) J) ?_
      refine sq_ev rfl (ev_less (ev_call en158.h J (line_pure sm (List.getElem_mem hi2)) ⟨J, trivial⟩) (Less.eq (b := S (linesB b)[i]) (by rw [hle]))) ?_
      refine W 4 ?_
      refine aw_loopk (ι := { k : Nat // k ≤ (linesB b)[i].length }) [6, 8, 10, 31, 32, 33, 41] (fun k => [(42, I k.1), (7, I (ctT (linesB b) i + csT ((i : Int) + 1) (linesB b)[i] k.1))]) (fun H k => H) (fun k => (linesB b)[i].length - k.1) (⟨0, Nat.zero_le _⟩) ⟨J, (by exact less_int (by simp [csT])), J, J, J, J, J, J, J, trivial⟩ rfl ?_
      rintro ⟨k, hk⟩
      dsimp only [keepS, St.put, sget, slotsOf, nn1, nn2, nn3, nn4, nn5, nn6, Nat.reduceBEq, Nat.reduceAdd, nn7, nn8]
      have hcs := csT_bd (m := (i : Int) + 1) ⟨by omega, by omega⟩ (linesB b)[i] k hk hll
      refine W 1 ?_
      refine iff (fun c_43 c_43' => ?_) (fun c_43 c_43' => ?_)
      · skip
        have hk' : k < (linesB b)[i].length := by omega
        have htb := term_bd (b := (linesB b)[i][k]) (j := k) (m := (i : Int) + 1) (by omega) ⟨by omega, by omega⟩
        have hb8 : ((linesB b)[i][k]).toNat < 256 := UInt8.toNat_lt _
        have eK : ctT (linesB b) i + csT ((i : Int) + 1) (linesB b)[i] k + ((linesB b)[i][k].toNat : Int) * ((k : Int) + 1) * ((i : Int) + 1) = ctT (linesB b) i + csT ((i : Int) + 1) (linesB b)[i] (k + 1) := by rw [csT_succ _ hk']; omega
        refine W 9 ?_
        refine sq_ev rfl (ev_mul J J (wr (by omega) (by omega))) ?_
        refine W 2 ?_
        refine sq_ev rfl (ev_mul J J (wr (by omega) (by omega))) ?_
        refine W 4 ?_
        exact ⟨⟨k + 1, by omega⟩, by simp only; omega, Sub.slots ⟨J, (by exact less_int eK), J, J, J, J, J, J, J, trivial⟩⟩
      · skip
        obtain rfl : k = (linesB b)[i].length := by omega
        have eO : S (outT (linesB b) i ++ ((linesB b)[i] ++ [10])) = S (outT (linesB b) (i + 1)) := by rw [outT_succ hi3]
        have eC : ctT (linesB b) i + csT ((i : Int) + 1) (linesB b)[i] (linesB b)[i].length = ctT (linesB b) (i + 1) := by rw [ctT_succ hi3]; rfl
        refine W 7 ?_
        exact ⟨⟨i + 1, by omega⟩, by simp only; omega, Sub.slots ⟨J, Less.eq eO, (by exact less_int eC), J, J, trivial⟩⟩
    · skip
      obtain rfl : i = (rowsB b).length := by omega
      refine W 1 ?_
      refine sq_ev rfl (ev_less (ev_rem J J (by decide)) (less_int (Int.tmod_eq_emod_of_nonneg (by omega)))) ?_
      refine V 1 ?_
      refine sq_nil (aw_seq ?_)
      have i1 := itoa_len (n := ctT (linesB b) (rowsB b).length % 173 / 100) ⟨by omega, by omega⟩
      have i2 := itoa_len (n := ctT (linesB b) (rowsB b).length % 173 / 10 % 10) ⟨by omega, by omega⟩
      have i3 := itoa_len (n := ctT (linesB b) (rowsB b).length % 173 % 10) ⟨by omega, by omega⟩
      refine W 3 ?_
      refine sq_ev rfl (ev_quo (q := ctT (linesB b) (rowsB b).length % 173 / 100) J J (by decide) (qd (by omega) (by omega) (by decide))) ?_
      refine cl A (itoa_pure _ (by omega) (by omega)) ?_
      refine W 2 ?_
      refine sq_ev rfl (ev_quo (q := ctT (linesB b) (rowsB b).length % 173 / 10) J J (by decide) (qd (by omega) (by omega) (by decide))) ?_
      refine sq_ev rfl (ev_less (ev_rem J J (by decide)) (less_int (Int.tmod_eq_emod_of_nonneg (by omega)))) ?_
      refine cl A (itoa_pure _ (by omega) (by omega)) ?_
      refine W 2 ?_
      refine sq_ev rfl (ev_less (ev_rem J J (by decide)) (less_int (Int.tmod_eq_emod_of_nonneg (by omega)))) ?_
      refine cl A (itoa_pure _ (by omega) (by omega)) ?_
      refine W 3 ?_
      exact retQ_pure (v := .raw _) rfl rfl (Less.eq (by simp [textB, sealB, digs3, hll0]))
theorem isbook_pure (b : Bk) (hl : b.l.length ≤ 1000000) : APure Tryz.prog 121 [bkA b] (B (bkOK b)) := by
 refine apure_of (rs := [.tmp 2]) Tryz.func121 rfl rfl (Nat.le_of_ble_eq_true rfl) (by simp [AV.pureL, AV.pureB, AV.pureE, pureE_map]) (by first | rfl | (simp [AV.pureL, AV.pureB, AV.pureE, pureE_map])) fun e0 he0 => ?_
 refine W 4 ?_
 refine cl A (isstage_pure b.s) ?_
 refine W 1 ?_
 refine sq_split 6 J (fun g1_3 => ?_) (fun g1_3 => ?_)
 ·
  have g1_3' := g1_3
  try simp only [qq] at g1_3'
  refine W 2 ?_
  refine cy A (iscompany_pure b.l hl) ?_
  refine W 2 ?_
  exact retQ_pure (v := .raw _) rfl rfl (Less.eq (by unfold bkOK; simp [*]))
 have g1_3' := g1_3
 try simp only [qq] at g1_3'
 refine W 5 ?_
 exact retQ_pure (v := .raw _) rfl rfl (Less.eq (by unfold bkOK; simp [*]))
end Go.Proofs.YtmbknoaneglilaaGreatDoor
namespace Go.Proofs.YtmbknoaneglilaaGreatDoor
open Go Go.Ab Ni Ol
instance bi205 : BdI Tryz.prog 205 [.raw (.string ByteArray.empty)] true [(0, 1)] 0 := ⟨by kernel_rfl⟩
instance en160 : EnT Tryz.prog 160 := ⟨Ent.of Tryz.func160 (by kernel_rfl) rfl⟩
instance en161 : EnT Tryz.prog 161 := ⟨Ent.of Tryz.func161 (by kernel_rfl) rfl⟩
instance en162 : EnT Tryz.prog 162 := ⟨Ent.of Tryz.func162 (by kernel_rfl) rfl⟩
instance en163 : EnT Tryz.prog 163 := ⟨Ent.of Tryz.func163 (by kernel_rfl) rfl⟩
instance en185 : EnT Tryz.prog 185 := ⟨Ent.of Tryz.func185 (by kernel_rfl) rfl⟩
instance ud21 : UnD Tryz.prog 21 (.int .i32) := ⟨Tryz.underlying21⟩
theorem split_pure (s : List UInt8) (c : UInt8) (hs : s.length ≤ 1000000) : APure Tryz.prog 160 [S s, S [c]] (strs (cut c s)) := by
  have hc := splitB_cut c s
  have hlen : (Lib.splitB ⟨#[c]⟩ 0 (Lib.countB ⟨s.toArray⟩ ⟨#[c]⟩) ⟨s.toArray⟩).length = Lib.countB ⟨s.toArray⟩ ⟨#[c]⟩ + 1 := Lib.splitB_all ⟨#[c]⟩ (Nat.le_refl 1) 0 _ _ rfl
  have h := apure_of_row (P := Tryz.prog) (f := 160) (vs := [.string ⟨s.toArray⟩, .string ⟨#[c]⟩]) (us := (Lib.splitB ⟨#[c]⟩ 0 (Lib.countB ⟨s.toArray⟩ ⟨#[c]⟩) ⟨s.toArray⟩).map Value.string) (et := 9)
    (fun u hu => by obtain ⟨x, _, rfl⟩ := List.mem_map.1 hu; rfl) (fun w hw => by
      obtain ⟨m0, m, hg, hm⟩ := hw.1
      have h0 : Tryz.prog.globalNamed "internal/bytealg.MaxLen" = some 0 := by kernel_rfl
      rw [h0] at hg; cases hg
      refine (Tryz.strings_Split ⟨s.toArray⟩ ⟨#[c]⟩ m w (by rw [bs_size]; omega) hm (Nat.le_refl 1)).mono ?_
      rintro x w' ⟨h1, h2⟩
      refine ⟨?_, by rw [h2]; exact ⟨rfl, rfl⟩, by rw [h2]; rfl⟩
      rw [h1, List.length_map, hlen])
  have e : ((Lib.splitB ⟨#[c]⟩ 0 (Lib.countB ⟨s.toArray⟩ ⟨#[c]⟩) ⟨s.toArray⟩).map Value.string).map (fun u => [AV.raw u]) = (cut c s).map fun p => [S p] := by
    rw [← hc, List.map_map, List.map_map]
    refine List.map_congr_left fun x _ => ?_
    simp [Function.comp]
  rw [e] at h; exact h
def SureR (b : Bool) (why : List UInt8) (x : ARes) : Prop := (b = true ∧ x = .ret (.tup [])) ∨ (b = false ∧ x = .pan (.ifc 205 (.agg [S why])))
def numR (w : List UInt8) (x : ARes) : Prop := match numO w with | some n => x = .ret (I n) | none => x = .pan (.ifc 205 (.agg [S w]))
theorem numR_none {w : List UInt8} (h : numO w = none) : numR w (.pan (.ifc 205 (.agg [S w]))) := by unfold numR; rw [h]
theorem numR_some {w : List UInt8} {n : Int} (h : numO w = some n) : numR w (.ret (I n)) := by unfold numR; rw [h]
theorem numR_ret {w : List UInt8} {v : AV} (h : numR w (.ret v)) : numO w = some (valN w) ∧ v = I (valN w) := by
  unfold numR at h
  cases hn : numO w with
  | none => rw [hn] at h; cases h
  | some n => rw [hn] at h; cases h; exact ⟨by rw [numO_val hn], by rw [numO_val hn]⟩
theorem numR_pan {w : List UInt8} {v : AV} (h : numR w (.pan v)) : numO w = none ∧ v = .ifc 205 (.agg [S w]) := by
  unfold numR at h
  cases hn : numO w with
  | none => rw [hn] at h; cases h; exact ⟨rfl, rfl⟩
  | some n => rw [hn] at h; cases h
theorem idx_mem (l : List (List UInt8)) (v : List UInt8) : (AV.raw (Value.bool (decide (ixQ (fun x => decide (v = x)) l ≥ 0)))) = B (decide (v ∈ l)) := by
  rw [ixQ_any]; congr 2
  rw [Bool.eq_iff_iff, List.any_eq_true, decide_eq_true_eq]
  constructor
  · rintro ⟨x, hx, h⟩; rw [decide_eq_true_eq] at h; exact h ▸ hx
  · exact fun h => ⟨v, h, by simp⟩
theorem sure_pan (b : Bool) (why : List UInt8) : APan Tryz.prog 161 [B b, S why] (SureR b why) := by
  refine APan.of_acall (by simp [AV.pureL, AV.pureB, AV.pureE, pureE_map]) (acall_of (rs := []) Tryz.func161 rfl rfl (Nat.le_of_ble_eq_true rfl) fun e0 he0 => ?_)
  refine W 2 ?_
  refine aw_cond J (fun c_5 => ?_) (fun c_5 => ?_)
  · skip
    have c_5' := c_5
    try simp only [qq] at c_5'
    refine W 3 ?_
    refine sq_panic J ?_
    exact ⟨rfl, .pan (.ifc 205 (.agg [S why])), .inr ⟨by simpa using c_5', rfl⟩, rfl, J⟩
  · skip
    have c_5' := c_5
    try simp only [qq] at c_5'
    refine W 0 ?_
    exact ⟨rfl, .tup [], rfl, .ret (.tup []), .inl ⟨by simpa using c_5', rfl⟩, rfl, J⟩
theorem number_pan (w : List UInt8) (hw : w.length ≤ 1000000) : APan Tryz.prog 162 [S w] (numR w) := by
 refine APan.of_acall (by simp [AV.pureL, AV.pureB, AV.pureE, pureE_map]) (acall_of (rs := [.tmp 2]) Tryz.func162 rfl rfl (Nat.le_of_ble_eq_true rfl) fun e0 he0 => ?_)
 refine W 3 ?_
 refine sq_rangeS rfl Tryz.underlying9 J ?_
 refine W 0 ?_
 refine aw_loopk (ι := { k : Nat // k ≤ w.length ∧ (∀ i, (h : i < w.length) → i < k → isD w[i] = true) ∧ (0 < k → w.length ≤ 2) }) [0, 7] (fun i => [(3, I (valN (w.take i.1)))]) (fun H i => H.set 0 (.raw (.stringIter ⟨w.toArray⟩ i.1))) (fun i => w.length - i.1) (⟨0, Nat.zero_le _, by omega, by omega⟩) ⟨J, J, J, trivial⟩ rfl ?_
 rintro ⟨k, hk, hds, h3⟩
 dsimp only [keepS, St.put, sget, slotsOf, nn1, nn2, nn3, nn4, nn5, nn6, Nat.reduceBEq, Nat.reduceAdd, nn7, nn8]
 refine W 0 ?_
 refine sq_nextS rfl J rfl (fun n1 => ?_) (fun n1 => ?_)
 ·
  have hk' : k < w.length := by rw [bs_size] at n1; exact n1
  have hdl := decode_le ⟨w.toArray⟩ k
  refine W 7 ?_
  refine sq_split 13 J (fun g2 => ?_) (fun g2 => ?_)
  ·
   have g2' := g2
   try simp only [qq] at g2'
   refine W 4 ?_
   refine sq_split 17 J (fun g3 => ?_) (fun g3 => ?_)
   ·
    have g3' := g3
    try simp only [qq] at g3'
    refine W 5 ?_
    refine sq_call (args := [B _, S w]) rfl en161.h J ⟨J, J, trivial⟩ (sure_pan _ _ _) ?_ ?_
    rotate_left
    ·
     (rintro v _ ⟨rfl, (⟨_, h⟩ | ⟨hb, h⟩)⟩ <;> cases h; exact ⟨rfl, .pan (.ifc 205 (.agg [S w])), numR_none (numO_len (by simp at hb; omega)), rfl, J⟩)
    rintro v _ ⟨rfl, (⟨hb, h⟩ | ⟨_, h⟩)⟩ <;> cases h
    refine sq_nil ?_
    have hlen : w.length ≤ 2 := by simp at hb; omega
    have hdec := dec_yes hk' (by omega) (by omega)
    have hv := valN_999 hk (by omega) hds
    have hb8 : (w[k]).toNat ≤ 57 := ((isD_iff _).1 hdec.2).2
    have eV : 10 * valN (w.take k) + (((Utf8.decode ⟨w.toArray⟩ k).1 : Int) - 48) = valN (w.take (k + 1)) := by rw [valN_take hk', hdec.1]
    refine W 7 ?_
    exact ⟨⟨k + 1, by omega, fun i h hi => (by by_cases e : i = k; (subst e; exact hdec.2); exact hds i h (by omega)), fun _ => hlen⟩, by simp only; omega, Sub.fin 1 ⟨(by exact less_int eV), J, J, trivial⟩ (by rw [hdec.1] <;> rfl) (by simp [slotsIn, objsIn, sget, keepS, AObj.inB, AV.inB, AV.inL, AV.inE, inE_map]) (by simp [slotsIn, objsIn, sget, keepS, AObj.inB, AV.inB, AV.inL, AV.inE, inE_map]) (by simp [he0])⟩
   have g3' := g3
   try simp only [qq] at g3'
   have hnd : isD w[k] = false := dec_no hk' (by omega)
   refine W 5 ?_
   refine sq_call (args := [B false, S w]) rfl en161.h J ⟨J, J, trivial⟩ (sure_pan _ _ _) ?_ ?_
   rotate_left
   ·
    (rintro v _ ⟨rfl, (⟨_, h⟩ | ⟨hb, h⟩)⟩ <;> cases h; exact ⟨rfl, .pan (.ifc 205 (.agg [S w])), numR_none (numO_dig hk' hnd), rfl, J⟩)
   rintro v _ ⟨rfl, (⟨hb, _⟩ | ⟨_, h⟩)⟩
   ·
    cases hb
   cases h
  have g2' := g2
  try simp only [qq] at g2'
  have hnd : isD w[k] = false := dec_no hk' (by omega)
  refine W 9 ?_
  refine sq_call (args := [B false, S w]) rfl en161.h J ⟨J, J, trivial⟩ (sure_pan _ _ _) ?_ ?_
  rotate_left
  ·
   (rintro v _ ⟨rfl, (⟨_, h⟩ | ⟨hb, h⟩)⟩ <;> cases h; exact ⟨rfl, .pan (.ifc 205 (.agg [S w])), numR_none (numO_dig hk' hnd), rfl, J⟩)
  rintro v _ ⟨rfl, (⟨hb, _⟩ | ⟨_, h⟩)⟩
  ·
   cases hb
  cases h
 obtain rfl : k = w.length := by rw [bs_size] at n1; omega
 have hv := valN_999 (Nat.le_refl w.length) (by rcases Nat.eq_zero_or_pos w.length with h | h; omega; have := h3 h; omega) hds
 have htk : w.take w.length = w := List.take_length
 have hv2 := hv
 rw [htk] at hv2
 refine W 5 ?_
 refine sq_split 32 J (fun g4 => ?_) (fun g4 => ?_)
 ·
  have g4' := g4
  try simp only [qq] at g4'
  have hwe : w ≠ [] := by simpa using g4
  refine W 1 ?_
  refine cy A (itoa_pure _ (by omega) (by omega)) ?_
  refine W 4 ?_
  refine sq_call (args := [B _, S w]) rfl en161.h J ⟨J, J, trivial⟩ (sure_pan _ _ _) ?_ ?_
  rotate_left
  ·
   (rintro v _ ⟨rfl, (⟨_, h⟩ | ⟨hb, h⟩)⟩ <;> cases h; exact ⟨rfl, .pan (.ifc 205 (.agg [S w])), numR_none (numO_itoa (by simpa [htk] using hb)), rfl, J⟩)
  rintro v _ ⟨rfl, (⟨hb, h⟩ | ⟨_, h⟩)⟩ <;> cases h
  refine W 2 ?_
  exact retQ_any (vs := [.raw _]) rfl rfl ⟨resVar_tmp _ _ _, trivial⟩ (⟨.ret (I (valN w)), numR_some (numO_some (fun i h => hds i h h) (h3 (List.length_pos_iff.2 hwe)) hwe (by simpa [htk] using hb)), rfl, Less.eq (by simp)⟩)
 have g4' := g4
 try simp only [qq] at g4'
 have hwe : w = [] := by simpa using g4
 refine W 6 ?_
 refine sq_call (args := [B false, S w]) rfl en161.h J ⟨J, J, trivial⟩ (sure_pan _ _ _) ?_ ?_
 rotate_left
 ·
  (rintro v _ ⟨rfl, (⟨_, h⟩ | ⟨hb, h⟩)⟩ <;> cases h; exact ⟨rfl, .pan (.ifc 205 (.agg [S w])), numR_none (by subst hwe; exact numO_nil), rfl, J⟩)
 rintro v _ ⟨rfl, (⟨hb, _⟩ | ⟨_, h⟩)⟩
 ·
  cases hb
 cases h
theorem indexS_pure (l : List (List UInt8)) (v : List UInt8) (hl : l.length ≤ 1000000) : APure Tryz.prog 185 [strs l, S v] (I (ixQ (fun x => decide (v = x)) l)) := by
 refine apure_of (rs := [.tmp 4]) Tryz.func185 rfl rfl (Nat.le_of_ble_eq_true rfl) (by simp [AV.pureL, AV.pureB, AV.pureE, pureE_map]) (by first | rfl | (simp [AV.pureL, AV.pureB, AV.pureE, pureE_map])) fun e0 he0 => ?_
 refine W 4 ?_
 refine aw_loopk (ι := { k : Nat // k ≤ l.length ∧ ∀ i, (hi : i < l.length) → i < k → decide (v = l[i]) = false }) [0, 1, 7] (fun i => [(8, I i.1)]) (fun H i => H) (fun i => l.length - i.1) (⟨0, Nat.zero_le _, by omega⟩) ⟨J, J, J, J, trivial⟩ rfl ?_
 rintro ⟨k, hk, hok⟩
 dsimp only [keepS, St.put, sget, slotsOf, nn1, nn2, nn3, nn4, nn5, nn6, Nat.reduceBEq, Nat.reduceAdd, nn7, nn8]
 refine W 1 ?_
 refine iff (fun c_9 c_9' => ?_) (fun c_9 c_9' => ?_)
 ·
  have hkL : k < l.length := by omega
  refine W 8 ?_
  refine aw_cond J (fun c_16 => ?_) (fun c_16 => ?_)
  ·
   have c_16' := c_16
   try simp only [qq] at c_16'
   refine W 2 ?_
   exact retQ_pure (v := .raw _) rfl rfl (Less.eq (by rw [ixQ_at hkL (by simpa using c_16') hok]))
  have c_16' := c_16
  try simp only [qq] at c_16'
  refine W 2 ?_
  exact ⟨⟨k + 1, by omega, fun i hi h => (by by_cases e : i = k; (subst e; simpa using c_16'); exact hok i hi (by omega))⟩, by simp only; omega, Sub.slots ⟨J, J, J, J, trivial⟩⟩
 refine W 1 ?_
 exact retQ_pure (v := .raw _) rfl rfl (Less.eq (by rw [ixQ_no fun i hi => hok i hi (by omega)]))
theorem containsS_pure (l : List (List UInt8)) (v : List UInt8) (hl : l.length ≤ 1000000) : APure Tryz.prog 163 [strs l, S v] (B (decide (v ∈ l))) := by
 refine apure_of (rs := [.tmp 4]) Tryz.func163 rfl rfl (Nat.le_of_ble_eq_true rfl) (by simp [AV.pureL, AV.pureB, AV.pureE, pureE_map]) (by first | rfl | (simp [AV.pureL, AV.pureB, AV.pureE, pureE_map])) fun e0 he0 => ?_
 refine W 3 ?_
 refine cl A (indexS_pure l v hl) ?_
 refine W 2 ?_
 exact retQ_pure (v := .raw _) rfl rfl (Less.eq (by rw [← idx_mem]))
end Go.Proofs.YtmbknoaneglilaaGreatDoor
namespace Go.Proofs.YtmbknoaneglilaaGreatDoor
open Go Go.Ab Ni Ol
instance bi23 : BdI Tryz.prog 23 [.raw (.int .i64 0), .raw (.int .i64 0), .raw (.int .i64 0), .raw (.int .i64 0), .raw (.int .i64 0), .raw (.int .i64 0)] true [(0, 1), (1, 1), (2, 1), (3, 1), (4, 1), (5, 1)] 0 := ⟨by kernel_rfl⟩
instance bi26 : BdI Tryz.prog 26 [.raw (.slice none 0 0)] true [(0, 1)] 0 := ⟨by kernel_rfl⟩
instance bi81 : BdI Tryz.prog 81 [.raw (.int .i64 0), .raw (.int .i64 0), .raw (.int .i64 0), .raw (.int .i64 0), .raw (.int .i64 0), .raw (.int .i64 0), .raw (.slice none 0 0)] true [(0, 6), (6, 1)] 0 := ⟨by kernel_rfl⟩
instance en124 : EnT Tryz.prog 124 := ⟨Ent.of Tryz.func124 (by kernel_rfl) rfl⟩
instance sf45 : SlS Tryz.prog 45 26 1 24 := ⟨SlFact.of (by kernel_rfl)⟩
instance ty81 : TyF Tryz.prog 81 true 7 := ⟨by kernel_rfl⟩
instance ud45 : UnD Tryz.prog 45 (.slice 26) := ⟨Tryz.underlying45⟩
instance z81 : ZeO Tryz.prog 81 [.raw (.int .i64 0), .raw (.int .i64 0), .raw (.int .i64 0), .raw (.int .i64 0), .raw (.int .i64 0), .raw (.int .i64 0), .raw (.slice none 0 0)] := ⟨by kernel_rfl⟩
def sgOf : List Int → Sg
  | [a, b, c, d, e, f] => ⟨a, b, c, d, e, f⟩
  | _ => default
def parse0 (s : List UInt8) : Option Bk := match cut 10 s with
  | r0 :: rs => if rs.length < 2 then none else match cut 32 r0 with
    | _ :: ws => if ws.length = 6 then (match numsO ws, rowsO (rs.take (rs.length - 2)) with
      | some ns, some l => some ⟨sgOf ns, l⟩
      | _, _ => none) else none
    | [] => none
  | [] => none
def parseB (s : List UInt8) : Option Bk := match parse0 s with
  | some b => if textB b = s then some b else none
  | none => none
def parsR (s : List UInt8) (x : ARes) : Prop := match parseB s with
  | some b => x = .ret (bkA b)
  | none => ∃ w, x = .pan (.ifc 205 (.agg [S w]))
theorem parsR_none {s : List UInt8} (h : parseB s = none) (w : List UInt8) : parsR s (.pan (.ifc 205 (.agg [S w]))) := by unfold parsR; rw [h]; exact ⟨w, rfl⟩
theorem parsR_some {s : List UInt8} {b : Bk} (h : parseB s = some b) : parsR s (.ret (bkA b)) := by unfold parsR; rw [h]
theorem parse_none {s : List UInt8} (h : parse0 s = none) : parseB s = none := by unfold parseB; rw [h]
theorem parse_rows {s r0 : List UInt8} {rs : List (List UInt8)} (h : cut 10 s = r0 :: rs) (h2 : rs.length < 2) : parseB s = none := parse_none (by unfold parse0; rw [h]; simp only; rw [if_pos h2])
theorem parse_head {s r0 : List UInt8} {rs : List (List UInt8)} (h : cut 10 s = r0 :: rs) (h2 : (cut 32 r0).length ≠ 7) : parseB s = none := parse_none (by
  unfold parse0; rw [h]; simp only
  split
  · rfl
  · split
    · rename_i ws hw; rw [hw] at h2; rw [if_neg (by simp at h2; exact h2)]
    · rfl)
theorem parse_nums {s r0 w0 : List UInt8} {rs ws : List (List UInt8)} (h : cut 10 s = r0 :: rs) (hw : cut 32 r0 = w0 :: ws) (hn : numsO ws = none) : parseB s = none := parse_none (by
  unfold parse0; rw [h]; simp only
  split
  · rfl
  · rw [hw]; simp only
    split
    · rw [hn]
    · rfl)
theorem parse_figs {s r0 : List UInt8} {rs : List (List UInt8)} (h : cut 10 s = r0 :: rs) (hn : rowsO (rs.take (rs.length - 2)) = none) : parseB s = none := parse_none (by
  unfold parse0; rw [h]; simp only
  split
  · rfl
  · split
    · split
      · rw [hn]; cases numsO _ <;> rfl
      · rfl
    · rfl)
theorem parse_all {s r0 w0 : List UInt8} {rs ws : List (List UInt8)} {ns : List Int} {l : List Fg} (h : cut 10 s = r0 :: rs) (h2 : ¬ rs.length < 2) (hw : cut 32 r0 = w0 :: ws) (h7 : ws.length = 6) (hn : numsO ws = some ns) (hl : rowsO (rs.take (rs.length - 2)) = some l) : parse0 s = some ⟨sgOf ns, l⟩ := by
  unfold parse0; rw [h]; simp only
  rw [if_neg h2, hw]; simp only
  rw [if_pos h7, hn, hl]
theorem rowO_0 {r : List UInt8} (h : ¬ 0 < ((cut 32 r).drop 1).length) : rowO r = none := by unfold rowO; rw [if_neg fun h2 => h h2.1]
theorem rowO_1 {r : List UInt8} (h : [] ∈ (cut 32 r).drop 1) : rowO r = none := by unfold rowO; rw [if_neg fun h2 => h2.2 h]
theorem rowO_2 {r : List UInt8} (h : 0 < ((cut 32 r).drop 1).length) (h2 : ¬ [] ∈ (cut 32 r).drop 1) : rowO r = some ((cut 32 r).drop 1) := by unfold rowO; rw [if_pos ⟨h, h2⟩]
theorem rowO_len {r : List UInt8} {f : Fg} (h : rowO r = some f) : sumL f ≤ r.length ∧ f.length ≤ r.length + 1 := by
  unfold rowO at h
  split at h
  · simp only [Option.some.injEq] at h; subst h
    have h1 := cut_len 32 r
    cases hc : cut 32 r with
    | nil => rw [hc] at h1; simp at h1
    | cons w l =>
      have h2 := cut_sum 32 r w l hc
      rw [hc] at h1
      simp only [List.drop_succ_cons, List.drop_zero, List.length_cons] at h1 ⊢
      omega
  · cases h
theorem midE {r0 : List UInt8} {rs : List (List UInt8)} (f : List UInt8 → List AV) (h : 2 ≤ rs.length) : AV.sl 1 ((((r0 :: rs).map f).take ((r0 :: rs).length - 2)).drop 1) = .sl 1 ((rs.take (rs.length - 2)).map f) := by
  congr 1
  have e1 : (r0 :: rs).length - 2 = (rs.length - 2) + 1 := by simp; omega
  rw [e1]; simp [List.map_take]
theorem six {α : Type} {l : List α} (h : l.length = 6) : ∃ a1 a2 a3 a4 a5 a6, l = [a1, a2, a3, a4, a5, a6] := by
  rcases l with _ | ⟨a1, _ | ⟨a2, _ | ⟨a3, _ | ⟨a4, _ | ⟨a5, _ | ⟨a6, _ | ⟨a7, l⟩⟩⟩⟩⟩⟩⟩ <;> simp at h
  exact ⟨_, _, _, _, _, _, rfl⟩
theorem smb_of {a1 a2 a3 a4 a5 a6 : List UInt8} {q : List Fg} {n : Nat} (hn : ∀ i (h : i < [a1, a2, a3, a4, a5, a6].length), numO [a1, a2, a3, a4, a5, a6][i] = some (valN [a1, a2, a3, a4, a5, a6][i])) (hq : q.length ≤ 1000)
    (hs : ∀ f ∈ q, ∃ r, rowO r = some f ∧ r.length ≤ 400) : SmB ⟨sgOf [valN a1, valN a2, valN a3, valN a4, valN a5, valN a6], q⟩ := by
  have b1 := numO_bd (hn 0 (by simp)); have b2 := numO_bd (hn 1 (by simp)); have b3 := numO_bd (hn 2 (by simp)); have b4 := numO_bd (hn 3 (by simp))
  have b5 := numO_bd (hn 4 (by simp)); have b6 := numO_bd (hn 5 (by simp))
  simp only [List.getElem_cons_zero, List.getElem_cons_succ] at b1 b2 b3 b4 b5 b6
  have hb : ∀ n ∈ stL (sgOf [valN a1, valN a2, valN a3, valN a4, valN a5, valN a6]), -1000000 ≤ n ∧ n ≤ 1000000 := fun n h => by
    simp only [stL, sgOf, List.mem_cons, List.not_mem_nil, or_false] at h
    rcases h with rfl | rfl | rfl | rfl | rfl | rfl <;> omega
  have hf : ∀ f ∈ q, sumL f ≤ 400 ∧ f.length ≤ 401 := fun f hf => by
    obtain ⟨r, h1, h2⟩ := hs f hf
    have := rowO_len h1; omega
  refine ⟨hb, fun f hh => by have := hf f hh; omega, fun r hr => ?_, hq⟩
  rcases rowsB_mem hr with rfl | ⟨f, hh, rfl⟩
  · unfold lineO nameW rowW
    rw [join_len]
    have key : ∀ l : List Int, (∀ n ∈ l, -1000000 ≤ n ∧ n ≤ 1000000) → sumL (l.map Lib.itoa) ≤ 9 * l.length := fun l => by
      induction l with
      | nil => intro _; simp [sumL]
      | cons n l ih =>
        intro h
        have h1 := itoa_len (h n (by simp))
        have h2 := ih fun m hm => h m (by simp [hm])
        simp only [sumL, List.map_cons, List.sum_cons, List.length_cons] at h2 ⊢
        omega
    have := key _ hb
    have e : (stL (sgOf [valN a1, valN a2, valN a3, valN a4, valN a5, valN a6])).length = 6 := rfl
    rw [e] at this
    have e2 : wStage.length = 5 := rfl
    simp only; omega
  · unfold lineO nameW rowW
    rw [join_len]
    have := hf f hh
    have e2 : wFigure.length = 6 := rfl
    simp only; omega
theorem parsed_pan (s : List UInt8) (hs : s.length ≤ 400) : APan Tryz.prog 124 [S s] (parsR s) := by
  refine APan.of_acall (by simp [AV.pureL, AV.pureB, AV.pureE, pureE_map]) (acall_of (rs := [.cell 2 81]) Tryz.func124 rfl rfl (Nat.le_of_ble_eq_true rfl) fun e0 he0 => ?_)
  refine aw_seq (aw_region ?_)
  refine sq_alloc rfl z81.h ?_
  refine sq_nil (aw_seq (aw_region (mvr J rfl (sq_ev rfl (ev_call en160.h J (split_pure s 10 (by omega)) ⟨J, J, trivial⟩) ?_))))
  first | refine ass rfl J ?_ | refine sq_ev rfl (ev_as (v := .own _ _ _) J) ?_ | refine asr J rfl ?_ | refine sq_ev rfl (ev_as (v := .slx _ _) J) ?_ | refine sq_ev rfl (ev_as (v := .msl _ _ _ _) J) ?_
  refine sq_nil (aw_seq ?_)
  generalize hR : cut 10 s = R
  have hRl := cut_len 10 s
  have hRm := cut_mem 10 s
  rw [hR] at hRl hRm
  obtain ⟨r0, rs, rfl⟩ : ∃ r0 rs, R = r0 :: rs := by cases R with | nil => simp at hRl | cons a l => exact ⟨a, l, rfl⟩
  refine aw_region ?_
  first | refine mvs rfl J ?_ | refine sq_ev rfl (ev_mv (v := .own _ _ _) J) ?_ | refine mvr J rfl ?_ | refine sq_ev rfl (ev_mv (v := .slx _ _) J) ?_ | refine sq_ev rfl (ev_mv (v := .msl _ _ _ _) J) ?_
  first | refine sq_ev rfl (ev_len_map sl24.h J) ?_ | refine sq_ev rfl (ev_len_map sl24.h (less_own _ _ _)) ?_ | refine sq_ev rfl (ev_len sl24.h J rfl) ?_ | refine sq_ev rfl (ev_len sl24.h (less_own _ _ _) rfl) ?_ | refine sq_ev rfl (ev_len sl24.h (less_nil _) rfl) ?_ | refine sq_ev rfl (ev_len_msl sl24.h J) ?_ | refine sq_ev rfl (ev_len sl24.h (less_slx _ _) rfl) ?_
  refine sq_ev rfl (ev_geq J J) ?_
  refine mvr J rfl ?_
  refine sq_call (args := [B _, S s]) rfl en161.h J ⟨J, J, trivial⟩ (sure_pan _ _ _) ?_ ?_
  rotate_left
  · (rintro v _ ⟨rfl, (⟨_, h⟩ | ⟨hb, h⟩)⟩ <;> cases h; exact ⟨rfl, .pan (.ifc 205 (.agg [S _])), parsR_none (parse_rows hR (by simp at hb; omega)) _, rfl, J⟩)
  rintro v _ ⟨rfl, (⟨hb1, h⟩ | ⟨_, h⟩)⟩ <;> cases h
  refine sq_nil (aw_seq ?_)
  have hr0 := hRm r0 (by simp)
  have hrs2 : 2 ≤ rs.length := by simp at hb1; omega
  have hrsl : rs.length ≤ s.length := by have h := hRl.1; rw [List.length_cons] at h; omega
  have hMl : (rs.take (rs.length - 2)).length ≤ rs.length := by rw [List.length_take]; omega
  refine aw_region ?_
  first | refine mvs rfl J ?_ | refine sq_ev rfl (ev_mv (v := .own _ _ _) J) ?_ | refine mvr J rfl ?_ | refine sq_ev rfl (ev_mv (v := .slx _ _) J) ?_ | refine sq_ev rfl (ev_mv (v := .msl _ _ _ _) J) ?_
  refine sq_ev rfl (ev_index_map (k := 0) sl24.h J J rfl (by simp)) ?_
  first | refine sq_ev rfl (ev_load J rfl ty9.h rfl) ?_ | refine sq_ev rfl (ev_load_i J ty9.h rfl) ?_
  refine sq_ev rfl (ev_call en160.h J (split_pure r0 32 (by omega)) ⟨J, J, trivial⟩) ?_
  first | refine ass rfl J ?_ | refine sq_ev rfl (ev_as (v := .own _ _ _) J) ?_ | refine asr J rfl ?_ | refine sq_ev rfl (ev_as (v := .slx _ _) J) ?_ | refine sq_ev rfl (ev_as (v := .msl _ _ _ _) J) ?_
  refine sq_nil (aw_seq ?_)
  generalize hW : cut 32 r0 = W
  have hwl := cut_mem 32 r0
  rw [hW] at hwl
  refine aw_region ?_
  first | refine mvs rfl J ?_ | refine sq_ev rfl (ev_mv (v := .own _ _ _) J) ?_ | refine mvr J rfl ?_ | refine sq_ev rfl (ev_mv (v := .slx _ _) J) ?_ | refine sq_ev rfl (ev_mv (v := .msl _ _ _ _) J) ?_
  first | refine sq_ev rfl (ev_len_map sl24.h J) ?_ | refine sq_ev rfl (ev_len_map sl24.h (less_own _ _ _)) ?_ | refine sq_ev rfl (ev_len sl24.h J rfl) ?_ | refine sq_ev rfl (ev_len sl24.h (less_own _ _ _) rfl) ?_ | refine sq_ev rfl (ev_len sl24.h (less_nil _) rfl) ?_ | refine sq_ev rfl (ev_len_msl sl24.h J) ?_ | refine sq_ev rfl (ev_len sl24.h (less_slx _ _) rfl) ?_
  refine sq_ev rfl (ev_eql J J) ?_
  refine mvr J rfl ?_
  refine sq_call (args := [B _, S s]) rfl en161.h J ⟨J, J, trivial⟩ (sure_pan _ _ _) ?_ ?_
  rotate_left
  · (rintro v _ ⟨rfl, (⟨_, h⟩ | ⟨hb, h⟩)⟩ <;> cases h; exact ⟨rfl, .pan (.ifc 205 (.agg [S _])), parsR_none (parse_head hR (by rw [hW]; simp at hb; omega)) _, rfl, J⟩)
  rintro v _ ⟨rfl, (⟨hb2, h⟩ | ⟨_, h⟩)⟩ <;> cases h
  refine sq_nil (aw_seq ?_)
  obtain ⟨w0, ws, rfl⟩ : ∃ w0 ws, W = w0 :: ws := by cases W with | nil => simp at hb2 | cons a l => exact ⟨a, l, rfl⟩
  have hws7 : ws.length = 6 := by simp at hb2; omega
  have hWh := hW
  refine aw_region ?_
  first | refine ass rfl J ?_ | refine sq_ev rfl (ev_as (v := .own _ _ _) J) ?_ | refine asr J rfl ?_ | refine sq_ev rfl (ev_as (v := .slx _ _) J) ?_ | refine sq_ev rfl (ev_as (v := .msl _ _ _ _) J) ?_
  refine sq_nil (aw_seq (aw_seq (aw_region ?_)))
  first | refine mvs rfl J ?_ | refine sq_ev rfl (ev_mv (v := .own _ _ _) J) ?_ | refine mvr J rfl ?_ | refine sq_ev rfl (ev_mv (v := .slx _ _) J) ?_ | refine sq_ev rfl (ev_mv (v := .msl _ _ _ _) J) ?_
  refine sq_ev rfl (ev_less (ev_slice sl24.h J J rfl (by simp) (by simp)) (Less.eq (b := .sl 1 (ws.map fun p => [S p])) (by simp [List.take_of_length_le]))) ?_
  first | refine sq_ev rfl (ev_len_map sl24.h J) ?_ | refine sq_ev rfl (ev_len_map sl24.h (less_own _ _ _)) ?_ | refine sq_ev rfl (ev_len sl24.h J rfl) ?_ | refine sq_ev rfl (ev_len sl24.h (less_own _ _ _) rfl) ?_ | refine sq_ev rfl (ev_len sl24.h (less_nil _) rfl) ?_ | refine sq_ev rfl (ev_len_msl sl24.h J) ?_ | refine sq_ev rfl (ev_len sl24.h (less_slx _ _) rfl) ?_
  refine mvr J rfl (sq_nil (aw_block ?_))
  refine aw_sub (sub_token 5 1 J) ?_
  refine aw_loopk (ι := { k : Nat // k ≤ ws.length ∧ ∀ i, (h : i < ws.length) → i < k → numO ws[i] = some (valN ws[i]) }) [0, 2, 3, 29, 30] (fun i => [(31, I i.1), (5, .own 1 1 (((ws.take i.1).map valN).map fun x => [I x]))]) (fun H i => H.set 1 (.tok (((ws.take i.1).map valN).map fun x => [I x]).length)) (fun i => ws.length - i.1) (⟨0, Nat.zero_le _, by omega⟩) ⟨J, J, J, J, J, J, J, trivial⟩ rfl ?_
  rintro ⟨k, hk, hok⟩
  dsimp only [keepS, St.put, sget, slotsOf, List.map_cons, List.map_nil, List.cons_append, List.nil_append, List.length_cons, List.length_nil, Nat.reduceBEq, Nat.reduceAdd, cond_true, cond_false]
  refine aw_seq (aw_region (sq_ev rfl (ev_lss J J) ?_))
  refine sq_nil (aw_seq ?_)
  refine aw_cond J (fun c_32 => ?_) (fun c_32 => ?_)
  · skip
    have c_32' := c_32
    try simp only [qq] at c_32'
    have hk' : k < ws.length := by omega
    have eS : ((ws.take (k + 1)).map valN).map (fun x => [I x]) = ((ws.take k).map valN).map (fun x => [I x]) ++ [[I (valN ws[k])]] := by rw [map_take_succ _ hk', List.map_append]; rfl
    refine aw_skip (aw_seq (aw_block (aw_seq (aw_region ?_))))
    first | refine sq_ev rfl (ev_index_map sl24.h J J rfl (by omega)) ?_ | refine sq_ev rfl (ev_index sl24.h J J rfl rfl) ?_
    first | refine sq_ev rfl (ev_load J rfl ty9.h rfl) ?_ | refine sq_ev rfl (ev_load_i J ty9.h rfl) ?_
    refine asr J rfl (sq_nil (aw_region ?_))
    first | refine mvs rfl J ?_ | refine sq_ev rfl (ev_mv (v := .own _ _ _) J) ?_ | refine mvr J rfl ?_ | refine sq_ev rfl (ev_mv (v := .slx _ _) J) ?_ | refine sq_ev rfl (ev_mv (v := .msl _ _ _ _) J) ?_
    refine mvr J rfl ?_
    refine sq_call (args := [S ws[k]]) rfl en162.h J ⟨J, trivial⟩ (number_pan _ (by have := hwl ws[k] (by simp [List.getElem_mem]); omega) _) ?_ ?_
    rotate_left
    · (rintro v _ ⟨rfl, h⟩; obtain ⟨hn, rfl⟩ := numR_pan h; exact ⟨rfl, .pan (.ifc 205 (.agg [S _])), parsR_none (parse_nums hR hW (numsO_bad hk' hn)) _, rfl, J⟩)
    rintro v _ ⟨rfl, h⟩; obtain ⟨hn, rfl⟩ := numR_ret h
    refine sq_ev rfl (ev_buildSlice (es := [[_]]) sf64.h rfl rfl rfl rfl) ?_
    first | refine sq_append rfl sf64.h Tryz.underlying64 rfl rfl J (Nat.succ_pos _) (by simp; omega) (by simp; omega) ?_ | refine sq_append rfl sf64.h Tryz.underlying64 rfl rfl (less_slx _ _) (Nat.succ_pos _) (by simp; omega) (by simp; omega) ?_
    first | refine ass rfl J ?_ | refine sq_ev rfl (ev_as (v := .own _ _ _) J) ?_ | refine asr J rfl ?_ | refine sq_ev rfl (ev_as (v := .slx _ _) J) ?_ | refine sq_ev rfl (ev_as (v := .msl _ _ _ _) J) ?_
    refine sq_nil (aw_region (sq_ev rfl (ev_add J J (wr (by omega) (by omega))) ?_))
    refine mvr J rfl (sq_nil ?_)
    exact ⟨⟨k + 1, by omega, fun i h hi => (by by_cases e : i = k; (subst e; exact hn); exact hok i h (by omega))⟩, by simp only; omega, Sub.fin 2 ⟨J, Less.eq (b := .own 1 1 (((ws.take (k + 1)).map valN).map fun x => [I x])) (by rw [eS] <;> rfl), J, J, J, J, J, trivial⟩ (congrArg (fun n => [_, AObj.tok n]) (congrArg List.length eS.symm)) (by simp [slotsIn, objsIn, sget, keepS, AObj.inB, AV.inB, AV.inL, AV.inE, inE_map, inE_ints, inE_strs, inE_figs, inE_cloths, -List.map_append, -List.map_take, -List.map_map]) (by simp [slotsIn, objsIn, sget, keepS, AObj.inB, AV.inB, AV.inL, AV.inE, inE_map, inE_ints, inE_strs, inE_figs, inE_cloths, -List.map_append, -List.map_take, -List.map_map]) (by simp [he0])⟩
  · skip
    have c_32' := c_32
    try simp only [qq] at c_32'
    obtain rfl : k = ws.length := by omega
    have hns : numsO ws = some (ws.map valN) := numsO_ok (fun i h => hok i h (by omega))
    obtain ⟨a1, a2, a3, a4, a5, a6, rfl⟩ : ∃ a1 a2 a3 a4 a5 a6, ws = [a1, a2, a3, a4, a5, a6] := six hws7
    refine aw_exit (aw_seq ?_)
    refine aw_draw 21 mo (by kernel_rfl) ?_
    first | refine dr_ev rfl (ev_mv (v := .sl _ _) J) ?_ | refine dr_ev rfl (ev_mv (v := .own _ _ _) J) ?_ | refine dr_ev rfl (ev_mv (v := .raw _) J) ?_ | refine dr_ev rfl (ev_mv (v := .slx _ _) J) ?_ | refine dr_ev rfl (ev_mv (v := .msl _ _ _ _) J) ?_
    refine dr_ev rfl (ev_index_map (k := 0) sl64.h (less_own _ _ _) J rfl (by simp)) ?_
    first | refine dr_ev rfl (ev_load J rfl ty3.h rfl) ?_ | refine dr_ev rfl (ev_load_i J ty3.h rfl) ?_
    first | refine dr_ev rfl (ev_mv (v := .sl _ _) J) ?_ | refine dr_ev rfl (ev_mv (v := .own _ _ _) J) ?_ | refine dr_ev rfl (ev_mv (v := .raw _) J) ?_ | refine dr_ev rfl (ev_mv (v := .slx _ _) J) ?_ | refine dr_ev rfl (ev_mv (v := .msl _ _ _ _) J) ?_
    refine dr_ev rfl (ev_index_map (k := 1) sl64.h (less_own _ _ _) J rfl (by simp)) ?_
    first | refine dr_ev rfl (ev_load J rfl ty3.h rfl) ?_ | refine dr_ev rfl (ev_load_i J ty3.h rfl) ?_
    first | refine dr_ev rfl (ev_mv (v := .sl _ _) J) ?_ | refine dr_ev rfl (ev_mv (v := .own _ _ _) J) ?_ | refine dr_ev rfl (ev_mv (v := .raw _) J) ?_ | refine dr_ev rfl (ev_mv (v := .slx _ _) J) ?_ | refine dr_ev rfl (ev_mv (v := .msl _ _ _ _) J) ?_
    refine dr_ev rfl (ev_index_map (k := 2) sl64.h (less_own _ _ _) J rfl (by simp)) ?_
    first | refine dr_ev rfl (ev_load J rfl ty3.h rfl) ?_ | refine dr_ev rfl (ev_load_i J ty3.h rfl) ?_
    first | refine dr_ev rfl (ev_mv (v := .sl _ _) J) ?_ | refine dr_ev rfl (ev_mv (v := .own _ _ _) J) ?_ | refine dr_ev rfl (ev_mv (v := .raw _) J) ?_ | refine dr_ev rfl (ev_mv (v := .slx _ _) J) ?_ | refine dr_ev rfl (ev_mv (v := .msl _ _ _ _) J) ?_
    refine dr_ev rfl (ev_index_map (k := 3) sl64.h (less_own _ _ _) J rfl (by simp)) ?_
    first | refine dr_ev rfl (ev_load J rfl ty3.h rfl) ?_ | refine dr_ev rfl (ev_load_i J ty3.h rfl) ?_
    first | refine dr_ev rfl (ev_mv (v := .sl _ _) J) ?_ | refine dr_ev rfl (ev_mv (v := .own _ _ _) J) ?_ | refine dr_ev rfl (ev_mv (v := .raw _) J) ?_ | refine dr_ev rfl (ev_mv (v := .slx _ _) J) ?_ | refine dr_ev rfl (ev_mv (v := .msl _ _ _ _) J) ?_
    refine dr_ev rfl (ev_index_map (k := 4) sl64.h (less_own _ _ _) J rfl (by simp)) ?_
    first | refine dr_ev rfl (ev_load J rfl ty3.h rfl) ?_ | refine dr_ev rfl (ev_load_i J ty3.h rfl) ?_
    first | refine dr_ev rfl (ev_mv (v := .sl _ _) J) ?_ | refine dr_ev rfl (ev_mv (v := .own _ _ _) J) ?_ | refine dr_ev rfl (ev_mv (v := .raw _) J) ?_ | refine dr_ev rfl (ev_mv (v := .slx _ _) J) ?_ | refine dr_ev rfl (ev_mv (v := .msl _ _ _ _) J) ?_
    refine dr_ev rfl (ev_index_map (k := 5) sl64.h (less_own _ _ _) J rfl (by simp)) ?_
    first | refine dr_ev rfl (ev_load J rfl ty3.h rfl) ?_ | refine dr_ev rfl (ev_load_i J ty3.h rfl) ?_
    refine dr_ev rfl (ev_build bi23.h rfl) ?_
    refine dr_ev rfl (ev_build bi81.h rfl) ?_
    refine dr_alloc rfl z81.h ?_
    refine dr_end ?_
    refine sq_store rfl J J rfl rfl ty81.h rfl rfl ?_
    refine sq_nil (aw_seq (aw_seq (aw_region ?_)))
    first | refine mvs rfl J ?_ | refine sq_ev rfl (ev_mv (v := .own _ _ _) J) ?_ | refine mvr J rfl ?_ | refine sq_ev rfl (ev_mv (v := .slx _ _) J) ?_ | refine sq_ev rfl (ev_mv (v := .msl _ _ _ _) J) ?_
    first | refine mvs rfl J ?_ | refine sq_ev rfl (ev_mv (v := .own _ _ _) J) ?_ | refine mvr J rfl ?_ | refine sq_ev rfl (ev_mv (v := .slx _ _) J) ?_ | refine sq_ev rfl (ev_mv (v := .msl _ _ _ _) J) ?_
    first | refine sq_ev rfl (ev_len_map sl24.h J) ?_ | refine sq_ev rfl (ev_len_map sl24.h (less_own _ _ _)) ?_ | refine sq_ev rfl (ev_len sl24.h J rfl) ?_ | refine sq_ev rfl (ev_len sl24.h (less_own _ _ _) rfl) ?_ | refine sq_ev rfl (ev_len sl24.h (less_nil _) rfl) ?_ | refine sq_ev rfl (ev_len_msl sl24.h J) ?_ | refine sq_ev rfl (ev_len sl24.h (less_slx _ _) rfl) ?_
    refine sq_ev rfl (ev_sub J J (wr (by omega) (by omega))) ?_
    refine sq_ev rfl (ev_less (ev_slice (lo := 1) (hi := (r0 :: rs).length - 2) sl24.h J J (less_int (by simp; omega)) (by simp; omega) (by simp; omega)) (Less.eq (b := .sl 1 ((rs.take (rs.length - 2)).map fun p => [S p])) (midE _ hrs2))) ?_
    first | refine sq_ev rfl (ev_len_map sl24.h J) ?_ | refine sq_ev rfl (ev_len_map sl24.h (less_own _ _ _)) ?_ | refine sq_ev rfl (ev_len sl24.h J rfl) ?_ | refine sq_ev rfl (ev_len sl24.h (less_own _ _ _) rfl) ?_ | refine sq_ev rfl (ev_len sl24.h (less_nil _) rfl) ?_ | refine sq_ev rfl (ev_len_msl sl24.h J) ?_ | refine sq_ev rfl (ev_len sl24.h (less_slx _ _) rfl) ?_
    refine mvr J rfl (sq_nil (aw_block ?_))
    refine aw_sub (sub_token_cell 2 1 [I (valN a1), I (valN a2), I (valN a3), I (valN a4), I (valN a5), I (valN a6)] [] rfl) ?_
    refine aw_loopk (ι := { q : List Fg // q.length ≤ (rs.take (rs.length - 2)).length ∧ ∀ i, (h : i < q.length) → (h2 : i < (rs.take (rs.length - 2)).length) → rowO (rs.take (rs.length - 2))[i] = some q[i] }) [0, 2, 8, 65, 66] (fun q => [(67, I q.1.length)]) (fun H q => (H.set 2 (.cells ([I (valN a1), I (valN a2), I (valN a3), I (valN a4), I (valN a5), I (valN a6)] ++ [.own 3 1 (q.1.map fun f => [strs f])]))).set 3 (.tok (q.1.map fun f => [strs f]).length)) (fun q => (rs.take (rs.length - 2)).length - q.1.length) (⟨[], by simp, by simp⟩) ⟨(by exact less_int (by simp)), J, J, J, J, J, trivial⟩ rfl ?_
    rintro ⟨q, hq, hok2⟩
    dsimp only [keepS, St.put, sget, slotsOf, List.map_cons, List.map_nil, List.cons_append, List.nil_append, List.length_cons, List.length_nil, Nat.reduceBEq, Nat.reduceAdd, cond_true, cond_false]
    refine aw_seq (aw_region (sq_ev rfl (ev_lss J J) ?_))
    refine sq_nil (aw_seq ?_)
    refine aw_cond J (fun c_68 => ?_) (fun c_68 => ?_)
    · skip
      have c_68' := c_68
      try simp only [qq] at c_68'
      have hk : q.length < (rs.take (rs.length - 2)).length := by omega
      refine aw_skip (aw_seq (aw_block (aw_seq (aw_region ?_))))
      first | refine sq_ev rfl (ev_index_map sl24.h J J rfl (by omega)) ?_ | refine sq_ev rfl (ev_index sl24.h J J rfl rfl) ?_
      first | refine sq_ev rfl (ev_load J rfl ty9.h rfl) ?_ | refine sq_ev rfl (ev_load_i J ty9.h rfl) ?_
      refine asr J rfl (sq_nil (aw_seq ?_))
      generalize hr : (rs.take (rs.length - 2))[q.length] = r
      have hrl : r.length ≤ s.length := hr ▸ hRm _ (List.mem_cons_of_mem _ (List.mem_of_mem_take (List.getElem_mem hk)))
      refine aw_region (mvr J rfl (sq_ev rfl (ev_call en160.h J (split_pure r 32 (by omega)) ⟨J, J, trivial⟩) ?_))
      refine sq_ev rfl (ev_less (ev_slice (lo := 1) sl24.h J J rfl (by simp; have := (cut_len 32 r).2; omega) (by simp)) (Less.eq (b := strs ((cut 32 r).drop 1)) (by rw [List.take_of_length_le (by simp)]; simp only [strs, List.map_drop]))) ?_
      first | refine ass rfl J ?_ | refine sq_ev rfl (ev_as (v := .own _ _ _) J) ?_ | refine asr J rfl ?_ | refine sq_ev rfl (ev_as (v := .slx _ _) J) ?_ | refine sq_ev rfl (ev_as (v := .msl _ _ _ _) J) ?_
      refine sq_nil (aw_seq (aw_region ?_))
      first | refine mvs rfl J ?_ | refine sq_ev rfl (ev_mv (v := .own _ _ _) J) ?_ | refine mvr J rfl ?_ | refine sq_ev rfl (ev_mv (v := .slx _ _) J) ?_ | refine sq_ev rfl (ev_mv (v := .msl _ _ _ _) J) ?_
      first | refine sq_ev rfl (ev_len_map sl24.h J) ?_ | refine sq_ev rfl (ev_len_map sl24.h (less_own _ _ _)) ?_ | refine sq_ev rfl (ev_len sl24.h J rfl) ?_ | refine sq_ev rfl (ev_len sl24.h (less_own _ _ _) rfl) ?_ | refine sq_ev rfl (ev_len sl24.h (less_nil _) rfl) ?_ | refine sq_ev rfl (ev_len_msl sl24.h J) ?_ | refine sq_ev rfl (ev_len sl24.h (less_slx _ _) rfl) ?_
      refine sq_ev rfl (ev_gtr J J) ?_
      refine mvr J rfl ?_
      refine sq_split 77 J (fun g16_3 => ?_) (fun g16_3 => ?_)
      · skip
        have g16_3' := g16_3
        try simp only [qq] at g16_3'
        first | refine sq_yes rfl rfl (less_b g16_3) rfl (ev_mv (v := .sl _ _) J) ?_ | refine sq_yes rfl rfl (less_b g16_3) rfl (ev_mv (v := .own _ _ _) J) ?_ | refine sq_yes rfl rfl (less_b g16_3) rfl (ev_mv (v := .raw _) J) ?_ | refine sq_yes rfl rfl (less_b g16_3) rfl (ev_mv (v := .slx _ _) J) ?_ | refine sq_yes rfl rfl (less_b g16_3) rfl (ev_mv (v := .msl _ _ _ _) J) ?_
        refine sq_yes rfl rfl (less_b g16_3) rfl (ev_call en163.h J (containsS_pure ((cut 32 r).drop 1) [] (by rw [List.length_drop]; have := (cut_len 32 r).1; omega)) ⟨J, J, trivial⟩) ?_
        refine sq_yes rfl rfl (less_b g16_3) rfl (ev_not J) ?_
        refine sq_ev rfl (ev_pickT (v := .raw _) (less_b g16_3) J) ?_
        refine mvr J rfl ?_
        refine sq_call (args := [B _, S r]) rfl en161.h J ⟨J, J, trivial⟩ (sure_pan _ _ _) ?_ ?_
        rotate_left
        · (rintro v _ ⟨rfl, (⟨_, h⟩ | ⟨hb, h⟩)⟩ <;> cases h; exact ⟨rfl, .pan (.ifc 205 (.agg [S _])), parsR_none (parse_figs hR (rowsO_bad hk (hr ▸ rowO_1 (by simpa using hb)))) _, rfl, J⟩)
        rintro v _ ⟨rfl, (⟨hb3, h⟩ | ⟨_, h⟩)⟩ <;> cases h
        refine sq_nil ?_
        have hx : rowO r = some ((cut 32 r).drop 1) := rowO_2 (by simpa using g16_3') (by simpa using hb3)
        have eS : (q ++ [((cut 32 r).drop 1)]).map (fun f => [strs f]) = q.map (fun f => [strs f]) ++ [[strs ((cut 32 r).drop 1)]] := by rw [List.map_append]; rfl
        refine aw_region ?_
        first | refine sq_ev rfl (ev_fieldAddr fo81_1.h J) ?_ | refine sq_ev rfl (ev_fieldAddr_i fo81_1.h J) ?_
        first | refine sq_ev rfl (ev_load J rfl ty45.h rfl) ?_ | refine sq_ev rfl (ev_load_i J ty45.h rfl) ?_
        first | refine mvs rfl J ?_ | refine sq_ev rfl (ev_mv (v := .own _ _ _) J) ?_ | refine mvr J rfl ?_ | refine sq_ev rfl (ev_mv (v := .slx _ _) J) ?_ | refine sq_ev rfl (ev_mv (v := .msl _ _ _ _) J) ?_
        refine sq_ev rfl (ev_build bi26.h rfl) ?_
        refine sq_ev rfl (ev_buildSlice (es := [[_]]) sf45.h rfl rfl rfl rfl) ?_
        first | refine sq_append rfl sf45.h Tryz.underlying45 rfl rfl J (Nat.succ_pos _) (by simp; omega) (by simp; omega) ?_ | refine sq_append rfl sf45.h Tryz.underlying45 rfl rfl (less_slx _ _) (Nat.succ_pos _) (by simp; omega) (by simp; omega) ?_
        first | refine sq_ev rfl (ev_fieldAddr fo81_1.h J) ?_ | refine sq_ev rfl (ev_fieldAddr_i fo81_1.h J) ?_
        refine sq_store rfl J J rfl rfl ty45.h rfl rfl ?_
        refine sq_nil (aw_region (sq_ev rfl (ev_add J J (wr (by omega) (by omega))) ?_))
        refine mvr J rfl (sq_nil ?_)
        exact ⟨⟨q ++ [((cut 32 r).drop 1)], by simp only [List.length_append, List.length_singleton]; omega, rowsO_q (hk := hk) hok2 hr hx⟩, by simp only [List.length_append, List.length_singleton]; omega, Sub.fin 4 ⟨(by exact less_int (by simp)), J, J, J, J, J, trivial⟩ (congrArg (fun L => [_, _, AObj.cells ([I (valN a1), I (valN a2), I (valN a3), I (valN a4), I (valN a5), I (valN a6)] ++ [AV.own 3 1 L]), AObj.tok L.length]) eS.symm) (by simp [slotsIn, objsIn, sget, keepS, AObj.inB, AV.inB, AV.inL, AV.inE, inE_map, inE_ints, inE_strs, inE_figs, inE_cloths, -List.map_append, -List.map_take, -List.map_map]) (by simp [slotsIn, objsIn, sget, keepS, AObj.inB, AV.inB, AV.inL, AV.inE, inE_map, inE_ints, inE_strs, inE_figs, inE_cloths, -List.map_append, -List.map_take, -List.map_map]) (by simp [he0])⟩
      · skip
        have g16_3' := g16_3
        try simp only [qq] at g16_3'
        refine sq_no rfl rfl (less_b g16_3) rfl rfl ?_
        refine sq_no rfl rfl (less_b g16_3) rfl rfl ?_
        refine sq_no rfl rfl (less_b g16_3) rfl rfl ?_
        refine sq_ev rfl (ev_pickF (v := .raw _) (less_b g16_3) J) ?_
        refine mvr J rfl ?_
        refine sq_call (args := [B false, S r]) rfl en161.h J ⟨J, J, trivial⟩ (sure_pan _ _ _) ?_ ?_
        rotate_left
        · (rintro v _ ⟨rfl, (⟨_, h⟩ | ⟨hb, h⟩)⟩ <;> cases h; exact ⟨rfl, .pan (.ifc 205 (.agg [S _])), parsR_none (parse_figs hR (rowsO_bad hk (hr ▸ rowO_0 (by simpa using g16_3')))) _, rfl, J⟩)
        rintro v _ ⟨rfl, (⟨hb, _⟩ | ⟨_, h⟩)⟩
        · cases hb
        · cases h
    · skip
      have c_68' := c_68
      try simp only [qq] at c_68'
      have hqe : q.length = (rs.take (rs.length - 2)).length := by omega
      have hsc : rowsO (rs.take (rs.length - 2)) = some q := rowsO_ok hqe (fun i h h2 => hok2 i h h2)
      have hhn : ∀ i (h : i < [a1, a2, a3, a4, a5, a6].length), numO [a1, a2, a3, a4, a5, a6][i] = some (valN [a1, a2, a3, a4, a5, a6][i]) := fun i h => hok i h h
      have sm0 := smb_of (n := 0) hhn (q := q) (by rw [hqe, List.length_take]; simp only [List.length_cons] at hRl; omega) (fun x hx => by obtain ⟨i, hi, rfl⟩ := List.getElem_of_mem hx; exact ⟨_, hok2 i hi (by omega), Nat.le_trans (hRm _ (List.mem_cons_of_mem _ (List.mem_of_mem_take (List.getElem_mem (by omega))))) hs⟩)
      obtain ⟨b, hP⟩ : ∃ b : Bk, b = ⟨sgOf [valN a1, valN a2, valN a3, valN a4, valN a5, valN a6], q⟩ := ⟨_, rfl⟩
      have hp0 : parse0 s = some b := by rw [hP]; exact parse_all hR (by omega) hWh hws7 hns hsc
      have sm : SmB b := by rw [hP]; exact sm0
      have hL : Less (.agg ([I (valN a1), I (valN a2), I (valN a3), I (valN a4), I (valN a5), I (valN a6)] ++ [.own 3 1 (q.map fun f => [strs f])])) (bkA b) := by rw [hP]; exact less_agg ⟨J, J, J, J, J, J, less_own _ _ _, trivial⟩
      refine aw_exit (aw_seq (aw_region ?_))
      first | refine sq_ev rfl (ev_load_agg J rfl ty81.h rfl) ?_ | refine sq_ev rfl (ev_load_agg_i J ty81.h (by exact Nat.le_of_ble_eq_true rfl)) ?_
      refine sq_ev rfl (ev_call en122.h J (text_pure b sm) ⟨hL, trivial⟩) ?_
      refine mvr J rfl (sq_ev rfl (ev_seqS J J) ?_)
      refine mvr J rfl ?_
      refine sq_call (args := [B _, S s]) rfl en161.h J ⟨J, J, trivial⟩ (sure_pan _ _ _) ?_ ?_
      rotate_left
      · (rintro v _ ⟨rfl, (⟨_, h⟩ | ⟨hb, h⟩)⟩ <;> cases h; exact ⟨rfl, .pan (.ifc 205 (.agg [S _])), parsR_none (by unfold parseB; rw [hp0]; simp only; rw [if_neg (by simpa using hb)]) _, rfl, J⟩)
      rintro v _ ⟨rfl, (⟨hb4, h⟩ | ⟨_, h⟩)⟩ <;> cases h
      refine sq_nil (aw_seq (aw_region ?_))
      first | refine sq_ev rfl (ev_load_agg J rfl ty81.h rfl) ?_ | refine sq_ev rfl (ev_load_agg_i J ty81.h (by exact Nat.le_of_ble_eq_true rfl)) ?_
      refine sq_store rfl J J rfl rfl ty81.h rfl rfl ?_
      refine sq_nil (aw_ret ?_)
      exact retQ_any (vs := [.agg _]) rfl rfl ⟨resVar_cell rfl rfl ty81.h rfl, trivial⟩ (⟨.ret (bkA b), parsR_some (by unfold parseB; rw [hp0]; simp only; rw [if_pos (by simpa using hb4)]), by simp [ARes.pureB, AV.pureL, AV.pureB, AV.pureE, pureE_map], hL⟩)
end Go.Proofs.YtmbknoaneglilaaGreatDoor
namespace Go.Proofs.YtmbknoaneglilaaGreatDoor
open Go Go.Ab Ni Ol
instance en123 : EnT Tryz.prog 123 := ⟨Ent.of Tryz.func123 (by kernel_rfl) rfl⟩
abbrev bk0 : Bk := ⟨⟨0, 0, 0, 0, 0, 0⟩, []⟩
theorem less_bk0 : Less (.agg [I 0, I 0, I 0, I 0, I 0, I 0, .raw (.slice none 0 0)]) (bkA bk0) :=
  less_agg ⟨J, J, J, J, J, J, less_nil 1, trivial⟩
abbrev z0 : List AV := [I 0, I 0, I 0, I 0, I 0, I 0, .raw (.slice none 0 0)]
def readE (s : List UInt8) : Bk × Int := if 400 < s.length then (bk0, 3) else match parseB s with
  | some b => if bkOK b = true then (b, 0) else (bk0, 2)
  | none => (bk0, 4)
abbrev readAV (s : List UInt8) : AV := .tup [bkA (readE s).1, I (readE s).2]
theorem readAV_pure (s : List UInt8) : (readAV s).pureB = true := by simp [AV.pureL, AV.pureB, AV.pureE, pureE_map]
theorem readE_long {s : List UInt8} (h : 400 < s.length) : readE s = (bk0, 3) := by unfold readE; rw [if_pos h]
theorem readE_none {s : List UInt8} (h : ¬ 400 < s.length) (h2 : parseB s = none) : readE s = (bk0, 4) := by unfold readE; rw [if_neg h, h2]
theorem readE_bad {s : List UInt8} {b : Bk} (h : ¬ 400 < s.length) (h2 : parseB s = some b) (h3 : bkOK b = false) : readE s = (bk0, 2) := by unfold readE; rw [if_neg h, h2]; simp only; rw [if_neg (by rw [h3]; simp)]
theorem readE_ok {s : List UInt8} {b : Bk} (h : ¬ 400 < s.length) (h2 : parseB s = some b) (h3 : bkOK b = true) : readE s = (b, 0) := by unfold readE; rw [if_neg h, h2]; simp only; rw [if_pos h3]
theorem parsR_ret {s : List UInt8} {b : Bk} {v : AV} (hp : parseB s = some b) (h : parsR s (.ret v)) : v = bkA b := by unfold parsR at h; rw [hp] at h; cases h; rfl
theorem parsR_yes {s : List UInt8} {b : Bk} {v : AV} (hp : parseB s = some b) (h : parsR s (.pan v)) : False := by unfold parsR at h; rw [hp] at h; cases h
theorem parsR_no {s : List UInt8} {v : AV} (hp : parseB s = none) (h : parsR s (.ret v)) : False := by unfold parsR at h; rw [hp] at h; obtain ⟨w, h⟩ := h; cases h
theorem parsR_pan {s : List UInt8} {v : AV} (hp : parseB s = none) (h : parsR s (.pan v)) : ∃ w, v = .ifc 205 (.agg [S w]) := by unfold parsR at h; rw [hp] at h; obtain ⟨w, h⟩ := h; cases h; exact ⟨w, rfl⟩
theorem read1_yes {s : List UInt8} {b : Bk} {i j : Nat} {H : List AObj} (hs : s.length ≤ 400) (hp : parseB s = some b) (hi : H[i]? = some (.cells [S s])) (hj : H[j]? = some (.cells z0)) :
    ACall Tryz.prog 123 [.ptr i 0, .ptr j 0] H fun x H' => H' = H.set j (.cells (bkC b)) ∧ x = .ret (.tup []) := by
  refine acall_of (rs := []) Tryz.func123 rfl rfl (Nat.le_of_ble_eq_true rfl) fun e0 he0 => ?_
  refine aw_region (sq_ev rfl (ev_load J hi ty9.h rfl) ?_)
  refine sq_call (first := []) (cap := []) (args := [S s]) rfl en124.h J ⟨J, trivial⟩ (parsed_pan s hs H) ?_ ?_
  · rintro v _ ⟨rfl, hR⟩
    obtain rfl := parsR_ret hp hR
    refine sq_store (j := j) (off := 0) rfl J J rfl hj ty81.h rfl rfl ?_
    refine sq_nil ?_
    exact ⟨rfl, .tup [], rfl, rfl, rfl⟩
  · rintro v _ ⟨rfl, hR⟩
    exact (parsR_yes hp hR).elim
theorem read1_no {s : List UInt8} {i j : Nat} {H : List AObj} (hs : s.length ≤ 400) (hp : parseB s = none) (hi : H[i]? = some (.cells [S s])) :
    ACall Tryz.prog 123 [.ptr i 0, .ptr j 0] H fun x H' => H' = H ∧ ∃ w, x = .pan (.ifc 205 (.agg [S w])) := by
  refine acall_of (rs := []) Tryz.func123 rfl rfl (Nat.le_of_ble_eq_true rfl) fun e0 he0 => ?_
  refine aw_region (sq_ev rfl (ev_load J hi ty9.h rfl) ?_)
  refine sq_call (first := []) (cap := []) (args := [S s]) rfl en124.h J ⟨J, trivial⟩ (parsed_pan s hs H) ?_ ?_
  · rintro v _ ⟨rfl, hR⟩
    exact (parsR_no hp hR).elim
  · rintro v _ ⟨rfl, hR⟩
    obtain ⟨w, rfl⟩ := parsR_pan hp hR
    exact ⟨rfl, rfl, w, rfl⟩
theorem attread_yes {s : List UInt8} {b : Bk} {i j : Nat} {H : List AObj} (hs : s.length ≤ 400) (hp : parseB s = some b) (hi : H[i]? = some (.cells [S s])) (hj : H[j]? = some (.cells z0)) (hin : objsIn H.length (H.set j (.cells (bkC b))) = true) :
    ACall Tryz.prog 115 [.fn (.func 123) [] [.ptr i 0, .ptr j 0]] H fun x H' => H' = H.set j (.cells (bkC b)) ∧ x = .ret (.tup [I 0, I 0, I 0]) := by
  refine ACall.drop (H1 := H.set j (.cells (bkC b))) (R := fun x => x = .ret (.tup [I 0, I 0, I 0])) ?_ (by simp) (by simpa using hin) (fun x hx => by subst hx; rfl)
  refine (attempt_call (first := []) (caps := [.ptr i 0, .ptr j 0]) (Rd := fun x H1 => H1 = H.set j (.cells (bkC b)) ∧ x = .ret (.tup [])) en123.h
    ((read1_yes hs hp (i := i) (j := j) (lookL hi) (lookL hj)).mono ?_)).mono ?_
  · rintro x _ ⟨rfl, rfl⟩
    exact ⟨H.set j (.cells (bkC b)), [], by rw [setL (lt_of_get? hj)]; simp, by simp, ⟨rfl, rfl⟩, _, Gave.ret _⟩
  · rintro x H' ⟨y, v, H1, X, rfl, hg, ⟨rfl, rfl⟩, rfl⟩
    refine ⟨⟨X, rfl⟩, ?_⟩
    cases hg; rfl
theorem attread_no {s : List UInt8} {i j : Nat} {H : List AObj} (hs : s.length ≤ 400) (hp : parseB s = none) (hi : H[i]? = some (.cells [S s])) (hin : objsIn H.length H = true) :
    ACall Tryz.prog 115 [.fn (.func 123) [] [.ptr i 0, .ptr j 0]] H fun x H' => H' = H ∧ x = .ret (.tup [I 0, I 0, I 4]) := by
  refine ACall.drop (R := fun x => x = .ret (.tup [I 0, I 0, I 4])) ?_ (Nat.le_refl _) hin (fun x hx => by subst hx; rfl)
  refine (attempt_call (first := []) (caps := [.ptr i 0, .ptr j 0]) (Rd := fun x H1 => H1 = H ∧ ∃ w, x = .pan (.ifc 205 (.agg [S w]))) en123.h
    ((read1_no hs hp (i := i) (j := j) (lookL hi)).mono ?_)).mono ?_
  · rintro x _ ⟨rfl, w, rfl⟩
    exact ⟨H, [], by simp, rfl, ⟨rfl, w, rfl⟩, _, Gave.book (S w) rfl⟩
  · rintro x H' ⟨y, v, H1, X, rfl, hg, ⟨rfl, w, rfl⟩, rfl⟩
    refine ⟨⟨X, rfl⟩, ?_⟩
    cases hg; rfl
theorem readL_pure (s : List UInt8) (hs : 400 < s.length) : APure Tryz.prog 56 [S s] (readAV s) := by
  refine apure_of (rs := [.cell 2 81, .tmp 3]) Tryz.func56 rfl rfl (Nat.le_of_ble_eq_true rfl) (by simp [AV.pureL, AV.pureB, AV.pureE, pureE_map]) (readAV_pure s) fun e0 he0 => ?_
  refine W 6 ?_
  refine iff (fun c_10 c_10' => ?_) (fun c_10 c_10' => ?_)
  · skip
    refine W 3 ?_
    exact retQ_res (vs := [.agg _, .raw _]) rfl rfl ⟨resVar_cell rfl rfl ty81.h rfl, resVar_tmp _ _ _, trivial⟩ (Less.trans (b := .tup [bkA bk0, I 3]) (less_tup ⟨less_bk0, J, trivial⟩) (Less.eq (by rw [readAV, readE_long hs])))
  · skip
    exfalso; omega
theorem readN_pure (s : List UInt8) (hs : ¬ 400 < s.length) (hp : parseB s = none) : APure Tryz.prog 56 [S s] (readAV s) := by
 refine apure_of (rs := [.cell 2 81, .tmp 3]) Tryz.func56 rfl rfl (Nat.le_of_ble_eq_true rfl) (by simp [AV.pureL, AV.pureB, AV.pureE, pureE_map]) (readAV_pure s) fun e0 he0 => ?_
 refine W 6 ?_
 refine iff (fun c_10 c_10' => ?_) (fun c_10 c_10' => ?_)
 ·
  exfalso; omega
 refine W 2 ?_
 refine sq_call (args := [.fn (.func 123) [] [.ptr 0 0, .ptr 2 0]]) rfl en115.h J ⟨J, trivial⟩ (attread_no (H := [.cells [S s], .cells z0, .cells z0]) (i := 0) (j := 2) (by omega) hp rfl (by simp [objsIn, AObj.inB, AV.inB, AV.inL, AV.inE, inE_map, inE_ints, inE_figs, inE_strs])) ?_ (by rintro v H' ⟨_, h⟩; cases h)
 rintro _ _ ⟨rfl, h⟩; cases h
 refine W 9 ?_
 refine ifn (fun c_19 c_19' => ?_) (fun c_19 c_19' => ?_)
 ·
  refine W 4 ?_
  exact retQ_res (vs := [.agg _, .raw _]) rfl rfl ⟨resVar_cell rfl rfl ty81.h rfl, resVar_tmp _ _ _, trivial⟩ (Less.trans (b := .tup [bkA bk0, I 4]) (less_tup ⟨less_bk0, J, trivial⟩) (Less.eq (by rw [readAV, readE_none hs hp])))
 exact absurd c_19' (by decide)
theorem readS_pure (s : List UInt8) (b : Bk) (hs : ¬ 400 < s.length) (hp : parseB s = some b) (hl : b.l.length ≤ 1000000) : APure Tryz.prog 56 [S s] (readAV s) := by
 refine apure_of (rs := [.cell 2 81, .tmp 3]) Tryz.func56 rfl rfl (Nat.le_of_ble_eq_true rfl) (by simp [AV.pureL, AV.pureB, AV.pureE, pureE_map]) (readAV_pure s) fun e0 he0 => ?_
 refine aw_seq (aw_region (sq_box rfl J rfl ?_))
 refine sq_alloc rfl z81.h ?_
 refine asr J rfl (sq_nil (aw_seq (aw_seq (aw_region ?_))))
 first | refine sq_ev rfl (ev_load J rfl ty9.h rfl) ?_ | refine sq_ev rfl (ev_load_i J ty9.h rfl) ?_
 refine sq_ev rfl (ev_lenS Tryz.underlying9 J) ?_
 refine sq_ev rfl (ev_gtr J J) ?_
 refine sq_nil ?_
 refine aw_cond J (fun c_10 => ?_) (fun c_10 => ?_)
 ·
  have c_10' := c_10
  try simp only [qq] at c_10'
  exfalso; omega
 have c_10' := c_10
 try simp only [qq] at c_10'
 refine aw_skip (aw_seq (aw_region ?_))
 refine sq_alloc rfl z81.h ?_
 refine sq_nil (aw_seq (aw_seq (aw_region (sq_ev rfl (ev_makeFunc) ?_))))
 refine sq_call (args := [.fn (.func 123) [] [.ptr 0 0, .ptr 2 0]]) rfl en115.h J ⟨J, trivial⟩ (attread_yes (H := [.cells [S s], .cells z0, .cells z0]) (i := 0) (j := 2) (by omega) hp rfl rfl (by simp [objsIn, AObj.inB, AV.inB, AV.inL, AV.inE, inE_map, inE_ints, inE_figs, inE_strs])) ?_ (by rintro v H' ⟨_, h⟩; cases h)
 rintro _ _ ⟨rfl, h⟩; cases h
 refine sq_ev rfl (ev_mv (v := .tup _) J) ?_
 refine xtr rfl J rfl (xtr rfl J rfl (xtr rfl J rfl (asr J rfl ?_)))
 refine asr J rfl (asr J rfl (sq_nil (aw_seq (aw_region (mvr J rfl (sq_ev rfl (ev_neq J J) ?_))))))
 refine sq_nil ?_
 refine aw_cond J (fun c_19 => ?_) (fun c_19 => ?_)
 ·
  have c_19' := c_19
  try simp only [qq] at c_19'
  exact absurd trivial c_19'
 have c_19' := c_19
 try simp only [qq] at c_19'
 refine aw_skip (aw_seq (aw_seq (aw_region ?_)))
 first | refine sq_ev rfl (ev_load_agg J rfl ty81.h rfl) ?_ | refine sq_ev rfl (ev_load_agg_i J ty81.h (by exact Nat.le_of_ble_eq_true rfl)) ?_
 refine sq_ev rfl (ev_call en121.h J (isbook_pure b hl) ⟨J, trivial⟩) ?_
 refine sq_ev rfl (ev_not J) ?_
 refine sq_nil ?_
 refine aw_cond J (fun c_24 => ?_) (fun c_24 => ?_)
 ·
  have c_24' := c_24
  try simp only [qq] at c_24'
  refine aw_seq (aw_region (sq_ev rfl (ev_build bi81.h rfl) ?_))
  refine sq_store rfl J J rfl rfl ty81.h rfl rfl ?_
  refine asr J rfl (sq_nil (aw_ret ?_))
  exact retQ_res (vs := [.agg _, .raw _]) rfl rfl ⟨resVar_cell rfl rfl ty81.h rfl, resVar_tmp _ _ _, trivial⟩ (Less.trans (b := .tup [bkA bk0, I 2]) (less_tup ⟨less_bk0, J, trivial⟩) (Less.eq (by rw [readAV, readE_bad hs hp (by simpa using c_24)])))
 have c_24' := c_24
 try simp only [qq] at c_24'
 refine aw_skip (aw_seq (aw_region ?_))
 first | refine sq_ev rfl (ev_load_agg J rfl ty81.h rfl) ?_ | refine sq_ev rfl (ev_load_agg_i J ty81.h (by exact Nat.le_of_ble_eq_true rfl)) ?_
 refine sq_store rfl J J rfl rfl ty81.h rfl rfl ?_
 refine asr J rfl (sq_nil (aw_ret ?_))
 exact retQ_res (vs := [.agg _, .raw _]) rfl rfl ⟨resVar_cell rfl rfl ty81.h rfl, resVar_tmp _ _ _, trivial⟩ (Less.trans (b := .tup [bkA b, I 0]) (less_tup ⟨J, J, trivial⟩) (Less.eq (by rw [readAV, readE_ok hs hp (by simpa using c_24)])))
theorem rowsO_len : ∀ {ws : List (List UInt8)} {l : List Fg}, rowsO ws = some l → l.length = ws.length
  | [], l, h => by simp [rowsO] at h; subst h; rfl
  | w :: ws, l, h => by
    unfold rowsO at h
    split at h
    · rename_i n l' h1 h2
      simp only [Option.some.injEq] at h; subst h
      simp [rowsO_len h2]
    · cases h
theorem parse0_len {s : List UInt8} {b : Bk} (h : parse0 s = some b) : b.l.length ≤ s.length := by
  unfold parse0 at h
  have hc := (cut_len 10 s).1
  split at h
  · rename_i r0 rs hr
    rw [hr] at hc; simp only [List.length_cons] at hc
    split at h
    · cases h
    · split at h
      · split at h
        · split at h
          · rename_i ns l hn hl
            simp only [Option.some.injEq] at h; subst h
            rw [rowsO_len hl, List.length_take]; omega
          · cases h
        · cases h
      · cases h
  · cases h
theorem parseB_len {s : List UInt8} {b : Bk} (h : parseB s = some b) : b.l.length ≤ s.length := by
  unfold parseB at h
  split at h
  · rename_i q hq
    split at h
    · simp only [Option.some.injEq] at h; subst h; exact parse0_len hq
    · cases h
  · cases h
/-- **Read.** -/
theorem read_pure (s : List UInt8) : APure Tryz.prog 56 [S s] (readAV s) := by
  by_cases hs : 400 < s.length
  · exact readL_pure s hs
  · cases hp : parseB s with
    | none => exact readN_pure s hs hp
    | some b => exact readS_pure s b hs hp (by have := parseB_len hp; omega)
end Go.Proofs.YtmbknoaneglilaaGreatDoor
namespace Go.Proofs.YtmbknoaneglilaaGreatDoor
open Go Go.Ab Ni Ol
instance en125 : EnT Tryz.prog 125 := ⟨Ent.of Tryz.func125 (by kernel_rfl) rfl⟩
instance en126 : EnT Tryz.prog 126 := ⟨Ent.of Tryz.func126 (by kernel_rfl) rfl⟩
instance en164 : EnT Tryz.prog 164 := ⟨Ent.of Tryz.func164 (by kernel_rfl) rfl⟩
instance z23 : ZeO Tryz.prog 23 [.raw (.int .i64 0), .raw (.int .i64 0), .raw (.int .i64 0), .raw (.int .i64 0), .raw (.int .i64 0), .raw (.int .i64 0)] := ⟨by kernel_rfl⟩
theorem qn10 {n : Nat} (h : n ≤ 1000000) : IntKind.i64.wrap ((n : Int).tdiv 10) = ((n / 10 : Nat) : Int) := by rw [qd (by omega) (by omega) (by decide)]; try omega
theorem rn10 {n : Nat} : ((n : Int).tmod 10) = ((n % 10 : Nat) : Int) := by rw [Int.tmod_eq_emod_of_nonneg (by omega)]; try omega
theorem itoa_nat (n : Nat) : Lib.itoa n = Lib.decDigits n := by unfold Lib.itoa; rw [if_neg (by omega)]; rfl
theorem dd_small {n : Nat} (h : n < 10) : Lib.decDigits n = [UInt8.ofNat (48 + n)] := by rw [Lib.decDigits, dif_pos h]
theorem dd_big {n : Nat} (h : ¬ n < 10) : Lib.decDigits n = Lib.decDigits (n / 10) ++ [UInt8.ofNat (48 + n % 10)] := by rw [Lib.decDigits, dif_neg h]
theorem digit_eq (n : Nat) : UInt8.ofNat ((48 + (n : Int)).toNat) = UInt8.ofNat (48 + n) := by congr 1; try omega
def preL (l : List (List UInt8)) : List UInt8 := (l.map fun x => 32 :: x).flatten
theorem preL_len (l : List (List UInt8)) : (preL l).length = sumL l := by
  unfold preL sumL
  induction l with
  | nil => rfl
  | cons x l ih => simp only [List.map_cons, List.flatten_cons, List.length_append, List.length_cons, List.sum_cons, ih]
theorem preL_take {l : List (List UInt8)} {k : Nat} (h : k < l.length) : preL (l.take (k + 1)) = preL (l.take k) ++ (32 :: l[k]) := by
  unfold preL; rw [List.take_succ_eq_append_getElem h, List.map_append, List.flatten_append]; simp
theorem join_eq : ∀ (w : List UInt8) (l : List (List UInt8)), Lib.join (w :: l) [32] = w ++ preL l
  | w, [] => by simp [Lib.join, preL, List.intercalate]
  | w, y :: l => by
    have ih := join_eq y l
    unfold Lib.join List.intercalate at ih ⊢
    rw [List.intersperse_cons_cons]
    simp only [List.flatten_cons]
    rw [ih]
    simp [preL]
theorem sumL_take : ∀ (l : List (List UInt8)) (k : Nat), sumL (l.take k) ≤ sumL l
  | [], k => by simp
  | x :: l, 0 => by simp [sumL]
  | x :: l, k + 1 => by
    have := sumL_take l k
    simp only [sumL, List.take_succ_cons, List.map_cons, List.sum_cons] at this ⊢; omega
theorem sumL_get : ∀ (l : List (List UInt8)) (k : Nat) (h : k < l.length), l[k].length + 1 ≤ sumL l
  | x :: l, 0, _ => by simp [sumL]
  | x :: l, k + 1, h => by
    have := sumL_get l k (by simpa using h)
    simp only [sumL, List.getElem_cons_succ, List.map_cons, List.sum_cons] at this ⊢; omega
theorem coOK_small {l : List Fg} (h : coOK l = true) : l.length ≤ 6 ∧ ∀ f ∈ l, f.length ≤ 6 ∧ sumL f ≤ 42 := by
  obtain ⟨h1, h2⟩ := coOK_facts h
  refine ⟨h1.2, fun f hf => ?_⟩
  obtain ⟨i, hi, rfl⟩ := List.getElem_of_mem hf
  obtain ⟨a, b, c⟩ := fgOK_facts (h2 i hi)
  refine ⟨a.2, ?_⟩
  have key : ∀ g : List (List UInt8), (∀ r ∈ g, r.length ≤ 6) → sumL g ≤ 7 * g.length := fun g => by
    induction g with
    | nil => intro _; simp [sumL]
    | cons r g ih =>
      intro h
      have h1 := h r (by simp)
      have h2 := ih fun q hq => h q (by simp [hq])
      simp only [sumL, List.map_cons, List.sum_cons, List.length_cons] at h2 ⊢; omega
  have := key l[i] fun r hr => by obtain ⟨j, hj, rfl⟩ := List.getElem_of_mem hr; rw [c j hj]; omega
  omega
theorem smb_ok {b : Bk} (h : bkOK b = true) : SmB b := by
  unfold bkOK at h
  simp only [Bool.and_eq_true] at h
  have h1 := stOK_iff.1 h.1
  obtain ⟨h2, h3⟩ := coOK_small h.2
  have hb : ∀ n ∈ stL b.s, -1000000 ≤ n ∧ n ≤ 1000000 := fun n hn => by
    simp only [stL, List.mem_cons, List.not_mem_nil, or_false] at hn
    rcases hn with rfl | rfl | rfl | rfl | rfl | rfl <;> omega
  refine ⟨hb, fun f hf => by have := h3 f hf; omega, fun r hr => ?_, by omega⟩
  rcases rowsB_mem hr with rfl | ⟨f, hf, rfl⟩
  · unfold lineO nameW rowW
    rw [join_len]
    have key : ∀ l : List Int, (∀ n ∈ l, -1000000 ≤ n ∧ n ≤ 1000000) → sumL (l.map Lib.itoa) ≤ 9 * l.length := fun l => by
      induction l with
      | nil => intro _; simp [sumL]
      | cons n l ih =>
        intro h
        have h1 := itoa_len (h n (by simp))
        have h2 := ih fun m hm => h m (by simp [hm])
        simp only [sumL, List.map_cons, List.sum_cons, List.length_cons] at h2 ⊢
        omega
    have := key _ hb
    have e : (stL b.s).length = 6 := rfl
    rw [e] at this
    have e2 : wStage.length = 5 := rfl
    simp only; omega
  · unfold lineO nameW rowW
    rw [join_len]
    have := h3 f hf
    have e2 : wFigure.length = 6 := rfl
    simp only; omega
theorem itoas_len (l : List Int) (hb : ∀ n ∈ l, 0 ≤ n ∧ n ≤ 1000000) : ∀ k, k ≤ l.length → (preL ((l.take k).map Lib.itoa)).length ≤ 9 * k
  | 0, _ => by simp [preL]
  | k + 1, h => by
    have ih := itoas_len l hb k (by omega)
    have hil := itoa_len (n := l[k]) (by have := hb _ (List.getElem_mem (show k < l.length by omega)); omega)
    rw [preL_len] at ih ⊢
    rw [List.take_succ_eq_append_getElem (by omega), List.map_append]
    simp only [sumL, List.map_append, List.map_cons, List.map_nil, List.sum_append, List.sum_cons, List.sum_nil] at ih ⊢; omega
theorem rdec_pure (n : Nat) : n ≤ 1000000 → APure Tryz.prog 164 [I n] (S (Lib.decDigits n)) := by
  induction n using Nat.strongRecOn with
  | _ n ih =>
  intro hn
  refine apure_of (rs := [.tmp 2]) Tryz.func164 rfl rfl (Nat.le_of_ble_eq_true rfl) (by simp [AV.pureL, AV.pureB, AV.pureE, pureE_map]) (by first | rfl | (simp [AV.pureL, AV.pureB, AV.pureE, pureE_map])) fun e0 he0 => ?_
  refine W 4 ?_
  refine sq_split 5 J (fun g1 => ?_) (fun g1 => ?_)
  · skip
    have g1' := g1
    try simp only [qq] at g1'
    refine W 3 ?_
    refine aw_cond J (fun c2 => ?_) (fun c2 => ?_)
    · skip
      have c2' := c2
      try simp only [qq] at c2'
      exfalso; omega
    · skip
      have c2' := c2
      try simp only [qq] at c2'
      refine W 2 ?_
      refine iff (fun c3 c3' => ?_) (fun c3 c3' => ?_)
      · skip
        exfalso; omega
      · skip
        refine W 2 ?_
        refine iff (fun c4 c4' => ?_) (fun c4 c4' => ?_)
        · skip
          refine W 3 ?_
          refine sq_ev rfl (ev_buildSlice (es := [[_]]) sf92.h rfl rfl rfl rfl) ?_
          refine W 2 ?_
          exact retQ_pure (v := .raw _) rfl rfl (Less.eq (by rw [dd_small (n := n) (by omega)]; simp only [List.map_cons, List.map_nil, digit_eq]))
        · skip
          refine W 0 ?_
          refine aw_draw 11 mo (by kernel_rfl) ?_
          refine WD 1 ?_
          refine dr_ev rfl (ev_quo (q := ((n / 10 : Nat) : Int)) J J (by decide) (qn10 hn)) ?_
          refine dcl A (ih (n / 10) (by omega) (by omega)) ?_
          refine WD 1 ?_
          refine dr_ev rfl (ev_less (ev_rem J J (by decide)) (less_int (by exact rn10))) ?_
          refine WD 2 ?_
          refine dr_ev rfl (ev_buildSlice (es := [[_]]) sf92.h rfl rfl rfl rfl) ?_
          refine WD 1 ?_
          refine dr_ev rfl (ev_catS J J (by have := decDigits_len 6 (n / 10) (by omega); simp; omega)) ?_
          refine WD 1 ?_
          refine W 0 ?_
          exact retQ_pure (v := .raw _) rfl rfl (Less.eq (by rw [dd_big (n := n) (by omega)]; simp only [List.map_cons, List.map_nil, digit_eq]))
  · skip
    have g1' := g1
    try simp only [qq] at g1'
    exfalso; omega
theorem rdecimal_pure (n : Int) (h : 0 ≤ n ∧ n ≤ 1000000) : APure Tryz.prog 164 [I n] (S (Lib.itoa n)) := by
  obtain ⟨m, rfl⟩ : ∃ m : Nat, n = m := ⟨n.toNat, by omega⟩
  rw [itoa_nat]
  exact rdec_pure m (by omega)
theorem rrow_pure (w : List UInt8) (l : List Int) (hw : w.length ≤ 1000) (hl : l.length ≤ 1000) (hb : ∀ n ∈ l, 0 ≤ n ∧ n ≤ 1000000) : APure Tryz.prog 125 [S w, ints l] (S (w ++ preL (l.map Lib.itoa))) := by
  refine apure_of (rs := [.tmp 4]) Tryz.func125 rfl rfl (Nat.le_of_ble_eq_true rfl) (by simp [AV.pureL, AV.pureB, AV.pureE, pureE_map]) (by first | rfl | (simp [AV.pureL, AV.pureB, AV.pureE, pureE_map])) fun e0 he0 => ?_
  refine W 2 ?_
  refine aw_loopk (ι := { k : Nat // k ≤ l.length }) [1] (fun i => [(5, I i.1), (0, S (w ++ preL ((l.take i.1).map Lib.itoa)))]) (fun H i => H) (fun i => l.length - i.1) (⟨0, Nat.zero_le _⟩) ⟨J, Less.eq (by show S w = _; simp [preL]), J, trivial⟩ rfl ?_
  rintro ⟨k, hk⟩
  dsimp only [keepS, St.put, sget, slotsOf, nn1, nn2, nn3, nn4, nn5, nn6, Nat.reduceBEq, Nat.reduceAdd, nn7, nn8]
  have hnl := itoas_len l hb k hk
  refine W 4 ?_
  refine iff (fun c1 c1' => ?_) (fun c1 c1' => ?_)
  · skip
    have hk' : k < l.length := by omega
    have hv := hb _ (List.getElem_mem hk')
    have eL : S (w ++ preL ((l.take k).map Lib.itoa) ++ [32] ++ Lib.itoa l[k]) = S (w ++ preL ((l.take (k + 1)).map Lib.itoa)) := by rw [List.take_succ_eq_append_getElem hk', List.map_append]; simp [preL]
    refine W 1 ?_
    refine sq_ev rfl (ev_catS J J (by simp only [List.length_append, List.length_cons, List.length_nil]; omega)) ?_
    refine W 4 ?_
    refine cl A (rdecimal_pure _ hv) ?_
    refine sq_ev rfl (ev_catS J J (by have := itoa_len (n := l[k]) (by omega); simp only [List.length_append, List.length_cons, List.length_nil]; omega)) ?_
    refine W 4 ?_
    exact ⟨⟨k + 1, by omega⟩, by simp only; omega, Sub.slots ⟨J, Less.eq eL, J, trivial⟩⟩
  · skip
    obtain rfl : k = l.length := by omega
    refine W 2 ?_
    exact retQ_pure (v := .raw _) rfl rfl (Less.eq (by simp))
theorem rsealed_pure (ls : List (List UInt8)) (hl : ls.length ≤ 1500) (hb : ∀ l ∈ ls, l.length ≤ 1000) : APure Tryz.prog 126 [.sl 1 (ls.map fun l => [S l]), I 173] (S (sealB ls)) := by
 refine apure_of (rs := [.tmp 4]) Tryz.func126 rfl rfl (Nat.le_of_ble_eq_true rfl) (by simp [AV.pureL, AV.pureB, AV.pureE, pureE_map]) (by first | rfl | (simp [AV.pureL, AV.pureB, AV.pureE, pureE_map])) fun e0 he0 => ?_
 refine W 4 ?_
 refine aw_loopk (ι := { i : Nat // i ≤ ls.length }) [0, 1] (fun i => [(7, I i.1), (5, S (outT ls i.1)), (6, I (ctT ls i.1))]) (fun H i => H) (fun i => ls.length - i.1) (⟨0, Nat.zero_le _⟩) ⟨J, J, J, J, J, trivial⟩ rfl ?_
 rintro ⟨i, hi⟩
 dsimp only [keepS, St.put, sget, slotsOf, nn1, nn2, nn3, nn4, nn5, nn6, Nat.reduceBEq, Nat.reduceAdd, nn7, nn8]
 have hol := outT_len hb i (by omega)
 have hct := ctT_bd (by omega) hb i (by omega)
 refine W 4 ?_
 refine iff (fun c1 c1' => ?_) (fun c1 c1' => ?_)
 ·
  have hi3 : i < ls.length := by omega
  have hll := hb _ (List.getElem_mem hi3)
  refine W 1 ?_
  refine aw_loopk (ι := { k : Nat // k ≤ ls[i].length }) [0, 1, 5, 7] (fun k => [(8, I k.1), (6, I (ctT ls i + csT ((i : Int) + 1) ls[i] k.1))]) (fun H k => H) (fun k => ls[i].length - k.1) (⟨0, Nat.zero_le _⟩) ⟨J, (by exact less_int (by simp [csT])), J, J, J, J, trivial⟩ rfl ?_
  rintro ⟨k, hk⟩
  dsimp only [keepS, St.put, sget, slotsOf, nn1, nn2, nn3, nn4, nn5, nn6, Nat.reduceBEq, Nat.reduceAdd, nn7, nn8]
  have hcs := csT_bd (m := (i : Int) + 1) ⟨by omega, by omega⟩ ls[i] k hk hll
  refine W 7 ?_
  refine iff (fun c2 c2' => ?_) (fun c2 c2' => ?_)
  ·
   have hk' : k < ls[i].length := by omega
   have htb := term_bd (b := ls[i][k]) (j := k) (m := (i : Int) + 1) (by omega) ⟨by omega, by omega⟩
   have hb8 : (ls[i][k]).toNat < 256 := UInt8.toNat_lt _
   have eK : ctT ls i + csT ((i : Int) + 1) ls[i] k + (ls[i][k].toNat : Int) * ((k : Int) + 1) * ((i : Int) + 1) = ctT ls i + csT ((i : Int) + 1) ls[i] (k + 1) := by rw [csT_succ _ hk']; omega
   refine W 10 ?_
   refine sq_ev rfl (ev_mul J J (wr (by omega) (by omega))) ?_
   refine W 2 ?_
   refine sq_ev rfl (ev_mul J J (wr (by omega) (by omega))) ?_
   refine W 5 ?_
   exact ⟨⟨k + 1, by omega⟩, by simp only; omega, Sub.slots ⟨J, (by exact less_int eK), J, J, J, J, trivial⟩⟩
  obtain rfl : k = ls[i].length := by omega
  have eO : S (outT ls i ++ ls[i] ++ [10]) = S (outT ls (i + 1)) := by rw [outT_succ hi3]; simp
  have eC : ctT ls i + csT ((i : Int) + 1) ls[i] ls[i].length = ctT ls (i + 1) := by rw [ctT_succ hi3]; rfl
  refine W 5 ?_
  refine sq_ev rfl (ev_catS J J (by omega)) ?_
  refine W 5 ?_
  exact ⟨⟨i + 1, by omega⟩, by simp only; omega, Sub.slots ⟨J, Less.eq eO, (by exact less_int eC), J, J, trivial⟩⟩
 obtain rfl : i = ls.length := by omega
 refine W 2 ?_
 refine sq_ev rfl (ev_less (ev_rem J J (by decide)) (less_int (Int.tmod_eq_emod_of_nonneg (by omega)))) ?_
 refine V 1 ?_
 refine sq_nil (aw_seq ?_)
 have i1 := itoa_len (n := ctT ls ls.length % 173 / 100) ⟨by omega, by omega⟩
 have i2 := itoa_len (n := ctT ls ls.length % 173 / 10 % 10) ⟨by omega, by omega⟩
 have i3 := itoa_len (n := ctT ls ls.length % 173 % 10) ⟨by omega, by omega⟩
 refine W 3 ?_
 refine sq_ev rfl (ev_quo (q := ctT ls ls.length % 173 / 100) J J (by decide) (qd (by omega) (by omega) (by decide))) ?_
 refine cl A (rdecimal_pure _ (by omega)) ?_
 refine W 2 ?_
 refine sq_ev rfl (ev_quo (q := ctT ls ls.length % 173 / 10) J J (by decide) (qd (by omega) (by omega) (by decide))) ?_
 refine sq_ev rfl (ev_less (ev_rem J J (by decide)) (less_int (Int.tmod_eq_emod_of_nonneg (by omega)))) ?_
 refine cl A (rdecimal_pure _ (by omega)) ?_
 refine W 2 ?_
 refine sq_ev rfl (ev_less (ev_rem J J (by decide)) (less_int (Int.tmod_eq_emod_of_nonneg (by omega)))) ?_
 refine cl A (rdecimal_pure _ (by omega)) ?_
 refine W 3 ?_
 exact retQ_pure (v := .raw _) rfl rfl (Less.eq (by simp [sealB, digs3]))
theorem rprint_pure (b : Bk) (sm : SmB b) (nn : ∀ n ∈ stL b.s, 0 ≤ n) : APure Tryz.prog 57 [bkA b] (S (textB b)) := by
 refine apure_of (rs := [.tmp 2]) Tryz.func57 rfl rfl (Nat.le_of_ble_eq_true rfl) (by simp [AV.pureL, AV.pureB, AV.pureE, pureE_map]) (by first | rfl | (simp [AV.pureL, AV.pureB, AV.pureE, pureE_map])) fun e0 he0 => ?_
 refine W 18 ?_
 refine sq_ev rfl (ev_buildSlice (es := [[_], [_], [_], [_], [_], [_]]) sf64.h rfl rfl rfl rfl) ?_
 refine sq_ev rfl (ev_call en125.h J (rrow_pure wStage (stL b.s) (by decide) (by show 6 ≤ 1000; decide) (fun n h => ⟨nn n h, (sm.head n h).2⟩)) ⟨J, stL_sl _, trivial⟩) ?_
 refine sq_ev rfl (ev_less (ev_buildSlice (es := [[_]]) sf24.h rfl rfl rfl rfl) (Less.eq (b := .slx 1 [[S (lineO b.s none)]]) (by rw [lineO, join_eq]; rfl))) ?_
 refine V 2 ?_
 refine sq_nil (aw_block ?_)
 refine aw_sub (sub_token_slx 4 1 J) ?_
 refine aw_loopk (ι := { k : Nat // k ≤ b.l.length }) [1] (fun i => [(5, I i.1), (4, .own 2 1 (((rowsT b i.1).map (lineO b.s)).map fun x => [S x]))]) (fun H i => H.set 2 (.tok (((rowsT b i.1).map (lineO b.s)).map fun x => [S x]).length)) (fun i => b.l.length - i.1) (⟨0, Nat.zero_le _⟩) ⟨J, J, J, trivial⟩ rfl ?_
 rintro ⟨i, hi⟩
 dsimp only [keepS, St.put, sget, slotsOf, nn1, nn2, nn3, nn4, nn5, nn6, Nat.reduceBEq, Nat.reduceAdd, nn7, nn8]
 have hrl := rowsT_len hi
 have hsl := sm.len
 refine W 5 ?_
 refine iff (fun c_29 c_29' => ?_) (fun c_29 c_29' => ?_)
 ·
  have hiL : i < b.l.length := by omega
  have hrf := sm.row _ (List.getElem_mem hiL)
  have hln := sm.line (some b.l[i]) (by unfold rowsB rowsT; rw [List.take_length]; exact List.mem_cons_of_mem _ (List.mem_map.2 ⟨_, List.getElem_mem hiL, rfl⟩))
  have hsm : sumL b.l[i] ≤ 1000 := by unfold lineO at hln; rw [join_len] at hln; simp only [rowW] at hln; omega
  refine W 2 ?_
  refine aw_loopk (ι := { j : Nat // j ≤ b.l[i].length }) [1, 4, 5] (fun j => [(7, I j.1), (6, S (wFigure ++ preL (b.l[i].take j.1)))]) (fun H j => H) (fun j => b.l[i].length - j.1) (⟨0, Nat.zero_le _⟩) ⟨J, Less.eq (by simp [preL] <;> rfl), J, J, J, trivial⟩ rfl ?_
  rintro ⟨j, hj⟩
  dsimp only [keepS, St.put, sget, slotsOf, nn1, nn2, nn3, nn4, nn5, nn6, Nat.reduceBEq, Nat.reduceAdd, nn7, nn8]
  have hpl := preL_len (b.l[i].take j)
  have hps := sumL_take b.l[i] j
  refine W 9 ?_
  refine iff (fun c_40 c_40' => ?_) (fun c_40 c_40' => ?_)
  ·
   have hjL : j < b.l[i].length := by omega
   have hgl := sumL_get b.l[i] j hjL
   have eL : S (wFigure ++ preL (b.l[i].take j) ++ [32] ++ b.l[i][j]) = S (wFigure ++ preL (b.l[i].take (j + 1))) := by rw [preL_take hjL]; simp
   refine W 1 ?_
   refine sq_ev rfl (ev_catS J J (by have : wFigure.length = 6 := rfl; simp; omega)) ?_
   refine W 9 ?_
   refine sq_ev rfl (ev_catS J J (by have : wFigure.length = 6 := rfl; simp; omega)) ?_
   refine W 4 ?_
   exact ⟨⟨j + 1, by omega⟩, by simp only; omega, Sub.slots ⟨J, Less.eq eL, J, J, J, trivial⟩⟩
  obtain rfl : j = b.l[i].length := by omega
  have eS : ((rowsT b (i + 1)).map (lineO b.s)).map (fun x => [S x]) = ((rowsT b i).map (lineO b.s)).map (fun x => [S x]) ++ [[S (wFigure ++ preL (b.l[i].take b.l[i].length))]] := by rw [rowsT_succ hiL, List.map_append, List.map_append, List.take_length]; simp only [List.map_cons, List.map_nil, lineO, nameW, rowW]; rw [join_eq]
  refine W 2 ?_
  refine sq_ev rfl (ev_buildSlice (es := [[_]]) sf24.h rfl rfl rfl rfl) ?_
  first | refine sq_append rfl sf24.h Tryz.underlying24 rfl rfl J (Nat.succ_pos _) (by simp; omega) (by simp; omega) ?_ | refine sq_append rfl sf24.h Tryz.underlying24 rfl rfl (less_slx _ _) (Nat.succ_pos _) (by simp; omega) (by simp; omega) ?_
  refine W 4 ?_
  exact ⟨⟨i + 1, by omega⟩, by simp only; omega, Sub.fin 3 ⟨J, Less.eq (b := .own 2 1 (((rowsT b (i + 1)).map (lineO b.s)).map (fun x => [S x]))) (by rw [eS] <;> rfl), J, trivial⟩ (congrArg (fun n => [_, _, AObj.tok n]) (congrArg List.length eS.symm)) (by simp [slotsIn, objsIn, sget, keepS, AObj.inB, AV.inB, AV.inL, AV.inE, inE_map, inE_ints, inE_strs, inE_figs, inE_cloths, -List.map_append, -List.map_take, -List.map_map]) (by simp [slotsIn, objsIn, sget, keepS, AObj.inB, AV.inB, AV.inL, AV.inE, inE_map, inE_ints, inE_strs, inE_figs, inE_cloths, -List.map_append, -List.map_take, -List.map_map]) (by simp [he0])⟩
 obtain rfl : i = b.l.length := by omega
 have hll0 : (linesB b).length = b.l.length + 1 := by show ((rowsT b b.l.length).map (lineO b.s)).length = _; simp [hrl]
 refine W 1 ?_
 refine sq_ev rfl (ev_call en126.h J (rsealed_pure (linesB b) (by omega) (linesB_len sm)) ⟨less_own _ _ _, J, trivial⟩) ?_
 refine W 1 ?_
 exact retQ_pure (v := .raw _) rfl rfl (Less.eq (by rfl))
end Go.Proofs.YtmbknoaneglilaaGreatDoor
