/-
  A part of the proof: conditions: none beyond each theorem's own.
-/
import Derived.Test.YtfmpabgblbbcdaaGreatDoorWalkB
import Derived.Test.YtfmpabgblbbcdaaGreatDoorLogicE
import Derived.Test.YtfmpabgblbbcdaaGreatDoorLogicD
import Derived.KernelRfl
import Derived.Lib.LaidTab
import Derived.Lib.ItoaNum
set_option linter.all false
set_option maxRecDepth 100000
set_option maxHeartbeats 8000000
namespace Go.Proofs.YtfmpabgblbbcdaaGreatDoor
open Go Go.Ab Ni St
open Hd hiding sz
instance bi108 : BdI Tryz.prog 108 [.raw (.int .i64 0), .raw (.slice none 0 0), .raw (.slice none 0 0), .raw (.slice none 0 0), .raw (.slice none 0 0), .raw (.slice none 0 0), .raw (.slice none 0 0)] true [(0, 4), (4, 1), (5, 1), (6, 1)] 0 := ⟨by kernel_rfl⟩
instance en121 : EnT Tryz.prog 121 := ⟨Ent.of Tryz.func121 (by kernel_rfl) rfl⟩
instance en84 : EnT Tryz.prog 84 := ⟨Ent.of Tryz.func84 (by kernel_rfl) rfl⟩
instance fo108_1 : FoF Tryz.prog 108 1 4 106 := ⟨by kernel_rfl⟩
instance fo108_2 : FoF Tryz.prog 108 2 5 61 := ⟨by kernel_rfl⟩
instance fo108_3 : FoF Tryz.prog 108 3 6 61 := ⟨by kernel_rfl⟩
instance sf106 : SlS Tryz.prog 106 61 1 24 := ⟨SlFact.of (by kernel_rfl)⟩
instance sl106 : SlE Tryz.prog 106 61 1 := ⟨by kernel_rfl⟩
instance ty106 : TyF Tryz.prog 106 false 1 := ⟨by kernel_rfl⟩
instance ty108 : TyF Tryz.prog 108 true 7 := ⟨by kernel_rfl⟩
instance ud106 : UnD Tryz.prog 106 (.slice 61) := ⟨Tryz.underlying106⟩
instance z108 : ZeO Tryz.prog 108 [.raw (.int .i64 0), .raw (.slice none 0 0), .raw (.slice none 0 0), .raw (.slice none 0 0), .raw (.slice none 0 0), .raw (.slice none 0 0), .raw (.slice none 0 0)] := ⟨by kernel_rfl⟩
theorem mask_get {ms : List Nat} {H : List AObj} {i : Nat} {o : AObj} (h : H[i]? = some o) (hm : ms.contains i = false) : (mask ms H)[i]? = some o := by
  unfold mask; rw [List.getElem?_mapIdx, h, Option.map_some, if_neg (by rw [hm]; simp)]
theorem made_zero (n : Nat) : (madeCells #[Value.int .i64 0] (n * 1)).toList = List.replicate n (.int .i64 0) := by
  unfold madeCells
  rw [Nat.mul_one]
  apply List.ext_getElem?
  intro k
  simp only [Array.toList_map, Array.toList_range, List.getElem?_map, List.getElem?_range, List.getElem?_replicate]
  by_cases h : k < n
  · simp [h, Nat.mod_one]
  · simp [h]
theorem mk22 (n : Nat) (hn : n ≤ 1000000) : makeB Tryz.prog 22 n = some (List.replicate n (.int .i64 0)) := by
  obtain ⟨i, h1, h2, h3, h4⟩ : ∃ i : TypeInfo, Tryz.prog.info? 3 = some i ∧ i.zero = some (.int .i64 0) ∧ i.size = 1 ∧ i.bytes = 8 := ⟨_, rfl, rfl, rfl, rfl⟩
  unfold makeB
  rw [Tryz.underlying22]
  simp only [h1, h2, h3, h4]
  have e : (Value.int IntKind.i64 0).cells = #[.int .i64 0] := rfl
  rw [e, made_zero, if_pos ⟨Nat.ble_eq_true_of_le (by omega), by simp [Value.oneCell']⟩]
abbrev ls (p : Ply) (i : Nat) : List (List Int) := arr true p (sc p i)
abbrev rowO (p : Ply) (f : Nat → Int) (i : Nat) : AObj := .cells ((List.range (ls p i).length).map fun k => I (f k))
def rowsK (p : Ply) (fb fl : Nat → Nat → Int) (n : Nat) : List AObj := (List.range n).flatMap fun i => [rowO p (fb i) i, rowO p (fl i) i]
theorem rowsK_succ (p : Ply) (fb fl : Nat → Nat → Int) (n : Nat) : rowsK p fb fl (n + 1) = rowsK p fb fl n ++ [rowO p (fb n) n, rowO p (fl n) n] := by
  unfold rowsK; rw [List.range_succ, List.flatMap_append]; rfl
theorem rowsK_len (p : Ply) (fb fl : Nat → Nat → Int) : ∀ n, (rowsK p fb fl n).length = 2 * n
  | 0 => rfl
  | n + 1 => by rw [rowsK_succ, List.length_append, rowsK_len p fb fl n]; simp; omega
theorem rowO_zero (p : Ply) (i : Nat) : rowO p (fun _ => 0) i = .cells (List.replicate (ls p i).length (I 0)) := by
  unfold rowO; rw [List.map_const', List.length_range]
abbrev allE (p : Ply) (n : Nat) : List (List AV) := (List.range n).map fun i => [hds (ls p i)]
abbrev befE (p : Ply) (n : Nat) : List (List AV) := (List.range n).map fun i => [.msl (6 + 2 * i) 0 (ls p i).length (ls p i).length]
abbrev lefE (p : Ply) (n : Nat) : List (List AV) := (List.range n).map fun i => [.msl (7 + 2 * i) 0 (ls p i).length (ls p i).length]
theorem rng_app (f : Nat → List AV) (n : Nat) : (List.range (n + 1)).map f = (List.range n).map f ++ [f n] := by rw [List.range_succ, List.map_append]; rfl
abbrev z7 : List AV := [I 0, .raw (.slice none 0 0), .raw (.slice none 0 0), .raw (.slice none 0 0), .raw (.slice none 0 0), .raw (.slice none 0 0), .raw (.slice none 0 0)]
abbrev planO (p : Ply) (n : Nat) (fb fl : Nat → Nat → Int) : List AObj :=
  [.dead, .cells z7, .cells [I p.left, ints p.hts, fgs p.figs, scs p.scs, .own 3 1 (allE p n), .own 4 1 (befE p n), .own 5 1 (lefE p n)], .tok (allE p n).length, .tok (befE p n).length, .tok (lefE p n).length] ++ rowsK p fb fl n
theorem planO_len (p : Ply) (n : Nat) (fb fl : Nat → Nat → Int) : (planO p n fb fl).length = 6 + 2 * n := by
  unfold planO; rw [List.length_append, rowsK_len]; rfl
theorem planO_succ (p : Ply) (n : Nat) (fb fl : Nat → Nat → Int) : planO p (n + 1) fb fl =
    [.dead, .cells z7, .cells [I p.left, ints p.hts, fgs p.figs, scs p.scs, .own 3 1 (allE p n ++ [[hds (ls p n)]]), .own 4 1 (befE p n ++ [[AV.msl (6 + 2 * n) 0 (ls p n).length (ls p n).length]]), .own 5 1 (lefE p n ++ [[AV.msl (7 + 2 * n) 0 (ls p n).length (ls p n).length]])],
     .tok (allE p n ++ [[hds (ls p n)]]).length, .tok (befE p n ++ [[AV.msl (6 + 2 * n) 0 (ls p n).length (ls p n).length]]).length, .tok (lefE p n ++ [[AV.msl (7 + 2 * n) 0 (ls p n).length (ls p n).length]]).length] ++ ((rowsK p fb fl n ++ [rowO p (fb n) n]) ++ [rowO p (fl n) n]) := by
  unfold planO
  rw [rowsK_succ, List.append_assoc (rowsK p fb fl n)]
  have e1 : allE p (n + 1) = allE p n ++ [[hds (ls p n)]] := rng_app _ n
  have e2 : befE p (n + 1) = befE p n ++ [[AV.msl (6 + 2 * n) 0 (ls p n).length (ls p n).length]] := rng_app _ n
  have e3 : lefE p (n + 1) = lefE p n ++ [[AV.msl (7 + 2 * n) 0 (ls p n).length (ls p n).length]] := rng_app _ n
  rw [e1, e2, e3]; rfl
theorem dl_fresh' {c : Ctx} {H0 : List AObj} {ops : Array Oper} {ix : List (Nat × Nat)} {Q : AExit → St → Prop} {i : Nat} {s : St} {rest : List Oper} {d : Option Tmp} {op : Op} {t : TypeId} {p : String} {af : Array Edge} {ob : AObj} {v : AV} (id : Nat) (hid : s.H.length = id) (hd : dOK c.nt d = true)
    (hv : FreshOK c Q [] ⟨d, op, t, p, af, none⟩ s.op id ob v) (k : DL c H0 ops ix Q (i + 1) rest (St.put { s with H := s.H ++ [ob] } d v)) : DL c H0 ops ix Q i (⟨d, op, t, p, af, none⟩ :: rest) s := by
  subst hid; exact dl_fresh hd hv k
theorem fresh_row {c : Ctx} (hP : c.P = Tryz.prog) {Q : AExit → St → Prop} {ρ : Operand → AV} {d : Option Tmp} {t : TypeId} {pp : String} {af : Array Edge} {x y : Operand} {id : Nat} (hd : dOK c.nt d = true) (p : Ply) (i : Nat) (hn : (ls p i).length ≤ 1000000)
    (hx : Less (ρ x) (.raw (.int .i64 (ls p i).length))) (hy : Less (ρ y) (.raw (.int .i64 (ls p i).length))) :
    FreshOK c Q [] ⟨d, .makeSlice 22 x y, t, pp, af, none⟩ ρ id (rowO p (fun _ => 0) i) (.msl id 0 (ls p i).length (ls p i).length) := by
  have h := fresh_make (c := c) (Q := Q) (Hc := []) (t := t) (p := pp) (af := af) (id := id) (st := 22) hd (by rw [hP]; exact mk22 _ hn) hn hx hy
  rwa [List.map_replicate, ← rowO_zero] at h
abbrev stp (p : Ply) (n : Nat) (a b : List Int) : Int := turns (sc p n) (sc p (n + 1)) a b
def befI (p : Ply) (i j : Nat) : Int := befF (ls p) (stp p) i ((ls p i).getD j [])
def lefI (p : Ply) (i j : Nat) : Int := lefF (ls p) (stp p) (p.scs.length - 1 - i) i ((ls p i).getD j [])
def fbK (p : Ply) (n k i j : Nat) : Int := if i ≤ n ∨ (i = n + 1 ∧ j < k) then befI p i j else 0
theorem fbK_zero (p : Ply) : fbK p 0 0 = fun _ _ => 0 := by
  funext i j
  unfold fbK
  by_cases h : i ≤ 0
  · obtain rfl : i = 0 := by omega
    rw [if_pos (.inl (Nat.le_refl _))]; rfl
  · rw [if_neg (by omega)]
theorem rowsK_congr {p : Ply} {fb fb' fl fl' : Nat → Nat → Int} : ∀ {n : Nat}, (∀ i, i < n → ∀ j, j < (ls p i).length → fb i j = fb' i j ∧ fl i j = fl' i j) → rowsK p fb fl n = rowsK p fb' fl' n
  | 0, _ => rfl
  | n + 1, h => by
    rw [rowsK_succ, rowsK_succ, rowsK_congr (n := n) fun i hi => h i (by omega)]
    have e1 : rowO p (fb n) n = rowO p (fb' n) n := by unfold rowO; exact congrArg AObj.cells (List.map_congr_left fun j hj => by rw [(h n (by omega) j (List.mem_range.1 hj)).1])
    have e2 : rowO p (fl n) n = rowO p (fl' n) n := by unfold rowO; exact congrArg AObj.cells (List.map_congr_left fun j hj => by rw [(h n (by omega) j (List.mem_range.1 hj)).2])
    rw [e1, e2]
theorem turns_bd {p : Ply} (gP : PlB p) {n : Nat} (hn : n < p.scs.length) (a b : List Int) : 0 ≤ stp p n a b ∧ stp p n a b ≤ 4 := by
  have h1 := tnK_le (sc p n) (sc p (n + 1)) a b (sc p n).rest.length
  have h2 := (sc_B gP hn).r4
  unfold stp turns; omega
theorem befF_bd {p : Ply} (gP : PlB p) (hA : ∀ i, i < p.scs.length → ls p i ≠ []) : ∀ (n : Nat) (a : List Int), n < p.scs.length → 0 ≤ befF (ls p) (stp p) n a ∧ befF (ls p) (stp p) n a ≤ 4 * n
  | 0, a, _ => by simp [befF]
  | n + 1, a, hn => by
    have h1 := mnL_mem (l := (ls p n).map fun c => befF (ls p) (stp p) n c + stp p n c a) (by simpa using List.length_pos_iff.2 (hA n (by omega)))
    obtain ⟨c, hc, e⟩ := List.mem_map.1 h1
    have h2 := befF_bd gP hA n c (by omega)
    have h3 := turns_bd gP (n := n) (by omega) c a
    have e2 : befF (ls p) (stp p) (n + 1) a = befF (ls p) (stp p) n c + stp p n c a := by rw [befF, ← e]
    rw [e2]; omega
theorem lefF_bd {p : Ply} (gP : PlB p) (hA : ∀ i, i < p.scs.length → ls p i ≠ []) : ∀ (d n : Nat) (a : List Int), n + d < p.scs.length → 0 ≤ lefF (ls p) (stp p) d n a ∧ lefF (ls p) (stp p) d n a ≤ 4 * d
  | 0, n, a, _ => by simp [lefF]
  | d + 1, n, a, hn => by
    have h1 := mnL_mem (l := (ls p (n + 1)).map fun b => lefF (ls p) (stp p) d (n + 1) b + stp p n a b) (by simpa using List.length_pos_iff.2 (hA (n + 1) (by omega)))
    obtain ⟨b, hb, e⟩ := List.mem_map.1 h1
    have h2 := lefF_bd gP hA d (n + 1) b (by omega)
    have h3 := turns_bd gP (n := n) (by omega) a b
    have e2 : lefF (ls p) (stp p) (d + 1) n a = lefF (ls p) (stp p) d (n + 1) b + stp p n a b := by rw [lefF, ← e]
    rw [e2]; omega
theorem befI_bd {p : Ply} (gP : PlB p) (hA : ∀ i, i < p.scs.length → ls p i ≠ []) {i : Nat} (j : Nat) (hi : i < p.scs.length) : 0 ≤ befI p i j ∧ befI p i j ≤ 20 := by
  have := befF_bd gP hA i ((ls p i).getD j []) hi
  have := gP.ns
  unfold befI; omega
theorem lefI_bd {p : Ply} (gP : PlB p) (hA : ∀ i, i < p.scs.length → ls p i ≠ []) {i : Nat} (j : Nat) (hi : i < p.scs.length) : 0 ≤ lefI p i j ∧ lefI p i j ≤ 20 := by
  have := lefF_bd gP hA (p.scs.length - 1 - i) i ((ls p i).getD j []) (by omega)
  have := gP.ns
  unfold lefI; omega
theorem fbK_next {p : Ply} {n i j : Nat} (hj : j < (ls p i).length) : fbK p n (ls p (n + 1)).length i j = fbK p (n + 1) 0 i j := by
  unfold fbK
  by_cases h : i ≤ n + 1
  · rw [if_pos (by rcases Nat.lt_or_ge i (n + 1) with q | q; exact .inl (by omega); (obtain rfl : i = n + 1 := by omega); exact .inr ⟨rfl, hj⟩), if_pos (.inl h)]
  · rw [if_neg (by omega), if_neg (by omega)]
theorem fbK_step {p : Ply} {n k i j : Nat} : (if i = n + 1 then (fun j => if j = k then befI p (n + 1) k else fbK p n k (n + 1) j) else fbK p n k i) j = fbK p n (k + 1) i j := by
  by_cases h : i = n + 1
  · subst h
    rw [if_pos rfl]
    by_cases hj : j = k
    · subst hj; simp only [if_true]; unfold fbK; rw [if_pos (.inr ⟨rfl, by omega⟩)]
    · simp only [if_neg hj]; unfold fbK
      by_cases hk : j < k
      · rw [if_pos (.inr ⟨rfl, hk⟩), if_pos (.inr ⟨rfl, by omega⟩)]
      · rw [if_neg (by omega), if_neg (by omega)]
  · rw [if_neg h]; unfold fbK
    by_cases hk : i ≤ n
    · rw [if_pos (.inl hk), if_pos (.inl hk)]
    · rw [if_neg (by omega), if_neg (by omega)]
theorem rowO_set {p : Ply} {f : Nat → Int} {i k : Nat} {v : Int} (hk : k < (ls p i).length) : ((List.range (ls p i).length).map fun j => I (f j)).set k (I v) = (List.range (ls p i).length).map fun j => I (if j = k then v else f j) := by
  apply List.ext_getElem?
  intro q
  by_cases h : k = q
  · subst h; rw [List.getElem?_set_self (by simpa using hk)]; simp [hk]
  · rw [List.getElem?_set_ne h, List.getElem?_map, List.getElem?_map]
    by_cases hq : q < (ls p i).length
    · rw [List.getElem?_range hq]; simp [Ne.symm h]
    · rw [List.getElem?_eq_none (by simpa using hq)]; rfl
theorem rowsK_get {p : Ply} {fb fl : Nat → Nat → Int} : ∀ {n i : Nat}, i < n → (rowsK p fb fl n)[2 * i]? = some (rowO p (fb i) i) ∧ (rowsK p fb fl n)[2 * i + 1]? = some (rowO p (fl i) i)
  | 0, _, h => absurd h (Nat.not_lt_zero _)
  | n + 1, i, h => by
    rw [rowsK_succ]
    have hl := rowsK_len p fb fl n
    by_cases e : i = n
    · subst e
      rw [List.getElem?_append_right (by omega), List.getElem?_append_right (by omega), hl, Nat.sub_self, show 2 * i + 1 - 2 * i = 1 by omega]
      exact ⟨rfl, rfl⟩
    · rw [List.getElem?_append_left (by omega), List.getElem?_append_left (by omega)]
      exact rowsK_get (by omega)
theorem rowsK_set {p : Ply} {fb fl : Nat → Nat → Int} {g : Nat → Int} : ∀ {n i : Nat}, i < n → (rowsK p fb fl n).set (2 * i) (rowO p g i) = rowsK p (fun j => if j = i then g else fb j) fl n ∧ (rowsK p fb fl n).set (2 * i + 1) (rowO p g i) = rowsK p fb (fun j => if j = i then g else fl j) n
  | 0, _, h => absurd h (Nat.not_lt_zero _)
  | n + 1, i, h => by
    rw [rowsK_succ, rowsK_succ, rowsK_succ]
    have hl := rowsK_len p fb fl n
    by_cases e : i = n
    · subst e
      rw [List.set_append_right _ _ (by omega), List.set_append_right _ _ (by omega), hl, Nat.sub_self, show 2 * i + 1 - 2 * i = 1 by omega, if_pos rfl, if_pos rfl]
      have e1 : rowsK p (fun j => if j = i then g else fb j) fl i = rowsK p fb fl i := by
        unfold rowsK
        refine congrArg List.flatten (List.map_congr_left fun j hj => ?_)
        have hji : ¬ j = i := by have := List.mem_range.1 hj; omega
        simp only [if_neg hji]
      have e2 : rowsK p fb (fun j => if j = i then g else fl j) i = rowsK p fb fl i := by
        unfold rowsK
        refine congrArg List.flatten (List.map_congr_left fun j hj => ?_)
        have hji : ¬ j = i := by have := List.mem_range.1 hj; omega
        simp only [if_neg hji]
      rw [e1, e2]; exact ⟨rfl, rfl⟩
    · have ih := rowsK_set (p := p) (fb := fb) (fl := fl) (g := g) (n := n) (i := i) (by omega)
      rw [List.set_append_left _ _ (by omega), List.set_append_left _ _ (by omega), ih.1, ih.2, if_neg (by omega), if_neg (by omega)]
      exact ⟨rfl, rfl⟩
abbrev base6 (a b c : Nat) : List AObj := [.dead, .cells z7, .dead, .tok a, .tok b, .tok c]
theorem row_b {p : Ply} {a b c : Nat} {fb fl : Nat → Nat → Int} {i : Nat} {X : List AObj} (h : i < p.scs.length) : ((base6 a b c ++ rowsK p fb fl p.scs.length) ++ X)[6 + 2 * i]? = some (rowO p (fb i) i) := by
  have hl := rowsK_len p fb fl p.scs.length
  rw [List.append_assoc, show 6 + 2 * i = (base6 a b c).length + 2 * i from rfl, List.getElem?_append_right (Nat.le_add_right _ _), Nat.add_sub_cancel_left, List.getElem?_append_left (by omega)]
  exact (rowsK_get h).1
theorem row_l {p : Ply} {a b c : Nat} {fb fl : Nat → Nat → Int} {i : Nat} {X : List AObj} (h : i < p.scs.length) : ((base6 a b c ++ rowsK p fb fl p.scs.length) ++ X)[7 + 2 * i]? = some (rowO p (fl i) i) := by
  have hl := rowsK_len p fb fl p.scs.length
  rw [List.append_assoc, show 7 + 2 * i = (base6 a b c).length + (2 * i + 1) by show _ = 6 + _; omega, List.getElem?_append_right (Nat.le_add_right _ _), Nat.add_sub_cancel_left, List.getElem?_append_left (by omega)]
  exact (rowsK_get h).2
theorem splice1 {l : List AV} {k : Nat} {v : AV} (h : k < l.length) : l.take (0 + k * 1) ++ [v] ++ l.drop (0 + k * 1 + [v].length) = l.set k v := by
  rw [Nat.zero_add, Nat.mul_one]
  exact (List.set_eq_take_append_cons_drop (l := l) (i := k) (a := v) ▸ by rw [if_pos h]; simp)
theorem row_store_b {p : Ply} {a b c n k : Nat} {X : List AObj} {v : Int} (hn : n + 1 < p.scs.length) (hk : k < (ls p (n + 1)).length) (hv : v = befI p (n + 1) k) : (((base6 a b c ++ rowsK p (fbK p n k) (fun _ _ => 0) p.scs.length) ++ X).set (6 + 2 * (n + 1)) (.cells (((List.range (ls p (n + 1)).length).map fun j => I (fbK p n k (n + 1) j)).take (0 + k * 1) ++ [I v] ++ ((List.range (ls p (n + 1)).length).map fun j => I (fbK p n k (n + 1) j)).drop (0 + k * 1 + [I v].length)))).take (base6 a b c ++ rowsK p (fbK p n k) (fun _ _ => 0) p.scs.length).length = base6 a b c ++ rowsK p (fbK p n (k + 1)) (fun _ _ => 0) p.scs.length := by
  have hl := rowsK_len p (fbK p n k) (fun _ _ => 0) p.scs.length
  rw [splice1 (by simpa using hk), List.set_append_left _ _ (by rw [List.length_append, hl]; show _ < 6 + _; omega), List.take_left' (by rw [List.length_set]), show 6 + 2 * (n + 1) = (base6 a b c).length + 2 * (n + 1) from rfl, List.set_append_right _ _ (Nat.le_add_right _ _), Nat.add_sub_cancel_left, rowO_set hk]
  have h1 := (rowsK_set (p := p) (fb := fbK p n k) (fl := fun _ _ => 0) (g := fun j => if j = k then v else fbK p n k (n + 1) j) (n := p.scs.length) hn).1
  have h1 : (rowsK p (fbK p n k) (fun _ _ => 0) p.scs.length).set (2 * (n + 1)) (.cells ((List.range (ls p (n + 1)).length).map fun j => I (if j = k then v else fbK p n k (n + 1) j))) = _ := h1
  rw [h1]
  refine congrArg (base6 a b c ++ ·) (rowsK_congr fun i hi j hj => ⟨?_, rfl⟩)
  rw [hv]; exact fbK_step
theorem rows_tok {p : Ply} {fb fl : Nat → Nat → Int} : ∀ (n q : Nat), tokOf ((rowsK p fb fl n)[q]?) = none
  | 0, q => by rw [show rowsK p fb fl 0 = [] from rfl]; simp [tokOf]
  | n + 1, q => by
    rw [rowsK_succ]
    rcases Nat.lt_or_ge q (rowsK p fb fl n).length with h | h
    · rw [List.getElem?_append_left h]; exact rows_tok n q
    · rw [List.getElem?_append_right h]
      match q - (rowsK p fb fl n).length with
      | 0 => rfl
      | 1 => rfl
      | k + 2 => simp [tokOf]
theorem tokAt (A : List AObj) (o : AObj) : (A ++ [o])[A.length]? = some o := by rw [List.getElem?_append_right (Nat.le_refl _), Nat.sub_self]; rfl
theorem map_getD {β : Type} (l : List (List Int)) (g : List Int → β) : (List.range l.length).map (fun q => g (l.getD q [])) = l.map g := by
  apply List.ext_getElem?
  intro q
  rw [List.getElem?_map, List.getElem?_map]
  by_cases hq : q < l.length
  · rw [List.getElem?_range hq, List.getElem?_eq_getElem hq]; simp [hq]
  · rw [List.getElem?_eq_none (by simpa using hq), List.getElem?_eq_none (by omega)]; rfl
theorem bef_min (p : Ply) (n k : Nat) : mnL ((List.range (ls p n).length).map fun q => befI p n q + stp p n ((ls p n).getD q []) ((ls p (n + 1)).getD k [])) = befI p (n + 1) k := by
  unfold befI
  rw [befF]
  exact congrArg mnL (map_getD (ls p n) fun c => befF (ls p) (stp p) n c + stp p n c ((ls p (n + 1)).getD k []))
theorem rows_in {p : Ply} {fb fl : Nat → Nat → Int} (m : Nat) : ∀ n, objsIn m (rowsK p fb fl n) = true
  | 0 => rfl
  | n + 1 => by
    rw [rowsK_succ, objsIn_append, rows_in m n, Bool.true_and]
    have h : ∀ f : Nat → Int, ∀ l : List Nat, AV.inL m (l.map fun k => I (f k)) = true := fun f l => by
      induction l with
      | nil => rfl
      | cons a l ih => rw [List.map_cons, AV.inL, ih]; rfl
    simp only [objsIn, AObj.inB, h]; rfl
theorem base_in {p : Ply} {fb fl : Nat → Nat → Int} (m a b c n : Nat) : objsIn m (base6 a b c ++ rowsK p fb fl n) = true := by
  rw [objsIn_append, rows_in, Bool.and_true]; rfl
theorem inE_bef (p : Ply) (N : Nat) {m : Nat} (h : 6 + 2 * N ≤ m) : AV.inE m (befE p N) = true := inE_map fun i hi => by
  have := List.mem_range.1 hi
  simp [AV.inL, AV.inB]; omega
theorem inE_lef (p : Ply) (N : Nat) {m : Nat} (h : 6 + 2 * N ≤ m) : AV.inE m (lefE p N) = true := inE_map fun i hi => by
  have := List.mem_range.1 hi
  simp [AV.inL, AV.inB]; omega
def flK (p : Ply) (n k i j : Nat) : Int := if n < i ∨ (i = n ∧ j < k) then lefI p i j else 0
theorem lefI_last (p : Ply) (j : Nat) : lefI p (p.scs.length - 1) j = 0 := by unfold lefI; rw [Nat.sub_self]; rfl
theorem flK_step {p : Ply} {n k i j : Nat} : (if i = n then (fun j => if j = k then lefI p n k else flK p n k n j) else flK p n k i) j = flK p n (k + 1) i j := by
  by_cases h : i = n
  · subst h
    rw [if_pos rfl]
    by_cases hj : j = k
    · subst hj; simp only [if_true]; unfold flK; rw [if_pos (.inr ⟨rfl, by omega⟩)]
    · simp only [if_neg hj]; unfold flK
      by_cases hk : j < k
      · rw [if_pos (.inr ⟨rfl, hk⟩), if_pos (.inr ⟨rfl, by omega⟩)]
      · rw [if_neg (by omega), if_neg (by omega)]
  · rw [if_neg h]; unfold flK
    by_cases hk : n < i
    · rw [if_pos (.inl hk), if_pos (.inl hk)]
    · rw [if_neg (by omega), if_neg (by omega)]
theorem row_store_l {p : Ply} {fb : Nat → Nat → Int} {a b c n k : Nat} {X : List AObj} {v : Int} (hn : n < p.scs.length) (hk : k < (ls p n).length) (hv : v = lefI p n k) : (((base6 a b c ++ rowsK p fb (flK p n k) p.scs.length) ++ X).set (7 + 2 * n) (.cells (((List.range (ls p n).length).map fun j => I (flK p n k n j)).take (0 + k * 1) ++ [I v] ++ ((List.range (ls p n).length).map fun j => I (flK p n k n j)).drop (0 + k * 1 + [I v].length)))).take (base6 a b c ++ rowsK p fb (flK p n k) p.scs.length).length = base6 a b c ++ rowsK p fb (flK p n (k + 1)) p.scs.length := by
  have hl := rowsK_len p fb (flK p n k) p.scs.length
  rw [splice1 (by simpa using hk), List.set_append_left _ _ (by rw [List.length_append, hl]; show _ < 6 + _; omega), List.take_left' (by rw [List.length_set]), show 7 + 2 * n = (base6 a b c).length + (2 * n + 1) by show _ = 6 + _; omega, List.set_append_right _ _ (Nat.le_add_right _ _), Nat.add_sub_cancel_left, rowO_set hk]
  have h1 := (rowsK_set (p := p) (fb := fb) (fl := flK p n k) (g := fun j => if j = k then v else flK p n k n j) (n := p.scs.length) hn).2
  have h1 : (rowsK p fb (flK p n k) p.scs.length).set (2 * n + 1) (.cells ((List.range (ls p n).length).map fun j => I (if j = k then v else flK p n k n j))) = _ := h1
  rw [h1]
  refine congrArg (base6 a b c ++ ·) (rowsK_congr fun i hi j hj => ⟨rfl, ?_⟩)
  rw [hv]; exact flK_step
theorem lef_min (p : Ply) (n k : Nat) (hn : n + 1 < p.scs.length) : mnL ((List.range (ls p (n + 1)).length).map fun q => lefI p (n + 1) q + stp p n ((ls p n).getD k []) ((ls p (n + 1)).getD q [])) = lefI p n k := by
  unfold lefI
  rw [show p.scs.length - 1 - n = (p.scs.length - 1 - (n + 1)) + 1 by omega, lefF]
  exact congrArg mnL (map_getD (ls p (n + 1)) fun b => lefF (ls p) (stp p) (p.scs.length - 1 - (n + 1)) (n + 1) b + stp p n ((ls p n).getD k []) b)
def flD (p : Ply) (d i j : Nat) : Int := if p.scs.length - 1 - d ≤ i then lefI p i j else 0
theorem flD_zero {p : Ply} {i j : Nat} (hi : i < p.scs.length) : flD p 0 i j = 0 := by
  unfold flD
  by_cases h : p.scs.length - 1 - 0 ≤ i
  · obtain rfl : i = p.scs.length - 1 := by omega
    rw [if_pos h, lefI_last]
  · rw [if_neg h]
theorem flD_in {p : Ply} {d n i j : Nat} (h : n + 2 + d = p.scs.length) : flD p d i j = flK p n 0 i j := by
  unfold flD flK
  by_cases q : n < i
  · rw [if_pos (by omega), if_pos (.inl q)]
  · rw [if_neg (by omega), if_neg (by omega)]
theorem flD_out {p : Ply} {d n i j : Nat} (h : n + 2 + d = p.scs.length) (hj : j < (ls p i).length) : flK p n (ls p n).length i j = flD p (d + 1) i j := by
  unfold flD flK
  by_cases q : n ≤ i
  · rw [if_pos (by rcases Nat.lt_or_ge n i with z | z; exact .inl z; (obtain rfl : i = n := by omega); exact .inr ⟨rfl, hj⟩), if_pos (by omega)]
  · rw [if_neg (by omega), if_neg (by omega)]
abbrev befR (p : Ply) (i : Nat) : List Int := (List.range (ls p i).length).map fun k => befI p i k
abbrev lefR (p : Ply) (i : Nat) : List Int := (List.range (ls p i).length).map fun k => lefI p i k
abbrev planC (p : Ply) : List AV := [I p.left, ints p.hts, fgs p.figs, scs p.scs, .sl 1 ((List.range p.scs.length).map fun i => [hds (ls p i)]), .sl 1 ((List.range p.scs.length).map fun i => [ints (befR p i)]), .sl 1 ((List.range p.scs.length).map fun i => [ints (lefR p i)])]
abbrev boxS (p : Ply) : List AV := [I p.left, ints p.hts, fgs p.figs, scs p.scs, .sl 1 (allE p p.scs.length), .sl 1 (befE p p.scs.length), .sl 1 (lefE p p.scs.length)]
theorem box_less (p : Ply) : LessL [I p.left, ints p.hts, fgs p.figs, scs p.scs, .own 3 1 (allE p p.scs.length), .own 4 1 (befE p p.scs.length), .own 5 1 (lefE p p.scs.length)] (boxS p) := ⟨Less.rfl' _, Less.rfl' _, Less.rfl' _, Less.rfl' _, less_own _ _ _, less_own _ _ _, less_own _ _ _, trivial⟩
theorem base_tok {p : Ply} {fb fl : Nat → Nat → Int} {a b c n : Nat} (q : Nat) (h : 6 ≤ q) : tokOf ((base6 a b c ++ rowsK p fb fl n)[q]?) = none := by
  rw [List.getElem?_append_right (show (base6 a b c).length ≤ q from h)]; exact rows_tok n _
theorem box_fz {p : Ply} {fb fl : Nat → Nat → Int} {a b c : Nat} (hb : ∀ i, i < p.scs.length → ∀ k, fb i k = befI p i k) (hl : ∀ i, i < p.scs.length → ∀ k, fl i k = lefI p i k) :
    FzA 6 (base6 a b c ++ rowsK p fb fl p.scs.length) (.iptr (boxS p)) (.iptr (planC p)) := by
  refine FzA.iptr ⟨FzA.same _, FzA.same _, FzA.same _, FzA.same _, FzA.same _, FzA.sl (FzAE.map fun i hi => ⟨rfl, ?_, trivial⟩), FzA.sl (FzAE.map fun i hi => ⟨rfl, ?_, trivial⟩), trivial⟩
  · have hi := List.mem_range.1 hi
    have h := FzA.row (m0 := 6) (H := base6 a b c ++ rowsK p fb fl p.scs.length) (q := 6 + 2 * i) (n := (ls p i).length) (by omega) (by have := row_b (a := a) (b := b) (c := c) (fb := fb) (fl := fl) (X := []) hi; rwa [List.append_nil] at this) (by simp)
    have e : (((List.range (ls p i).length).map fun k => I (fb i k)).map fun x => [x]) = (befR p i).map fun x => [I x] := by
      rw [List.map_map, List.map_map]; exact List.map_congr_left fun k _ => by simp only [Function.comp]; rw [hb i hi k]
    rw [e] at h; exact h
  · have hi := List.mem_range.1 hi
    have h := FzA.row (m0 := 6) (H := base6 a b c ++ rowsK p fb fl p.scs.length) (q := 7 + 2 * i) (n := (ls p i).length) (by omega) (by have := row_l (a := a) (b := b) (c := c) (fb := fb) (fl := fl) (X := []) hi; rwa [List.append_nil] at this) (by simp)
    have e : (((List.range (ls p i).length).map fun k => I (fl i k)).map fun x => [x]) = (lefR p i).map fun x => [I x] := by
      rw [List.map_map, List.map_map]; exact List.map_congr_left fun k _ => by simp only [Function.comp]; rw [hl i hi k]
    rw [e] at h; exact h
theorem plan_pure {p : Ply} (gP : PlB p) (hA : ∀ i, i < p.scs.length → ls p i ≠ []) : APure Tryz.prog 83 [plA p] (.agg (planC p)) := by
  refine ap Tryz.func83 (fun e0 he0 => ?_)
  refine aw_seq ?_
  have hns := gP.ns
  refine vz 2 ?_
  refine sq_nil ?_
  refine aw_seq ?_
  refine aw_sub (sub_iptrK [2] 1 (j := 0) (l := plC p) rfl rfl) ?_
  refine vz 4 ?_
  refine sq_nil ?_
  refine aw_seq ?_
  refine aw_seq ?_
  refine aw_sub (sub_token_cell 2 1 [I p.left, ints p.hts, fgs p.figs, scs p.scs] [.raw (.slice none 0 0), .raw (.slice none 0 0)] rfl) ?_
  refine aw_sub (sub_token_cell 2 1 [I p.left, ints p.hts, fgs p.figs, scs p.scs, .own 3 1 []] [.raw (.slice none 0 0)] rfl) ?_
  refine aw_sub (sub_token_cell 2 1 [I p.left, ints p.hts, fgs p.figs, scs p.scs, .own 3 1 [], .own 4 1 []] [] rfl) ?_
  refine nz ?_
  refine wz 4 ?_
  refine aw_loopk (ι := { n : Nat // n ≤ p.scs.length }) [1, 2, 3, 23] (fun g => [(24, I (g.1 : Nat))]) (fun H g => planO p g.1 (fun _ _ => 0) (fun _ _ => 0)) (fun g => p.scs.length - g.1) (⟨0, Nat.zero_le _⟩) ⟨jz, jz, jz, jz, jz, trivial⟩ rfl ?_
  rintro ⟨n, hn⟩
  refine nz ?_
  refine wz 1 ?_
  refine iz (fun c_25 c_25' => ?_) (fun c_25 c_25' => ?_)
  ·have hnl : n < p.scs.length := by omega
   have hal : (ls p n).length ≤ 1296 := arr_len gP (sc_B gP hnl) true
   refine wz 4 ?_
   refine kz az (stage_pure hnl (by omega)) ?_
   refine kz az (arrs_pure p (sc p n)) ?_
   refine kz az (collect_pure (l := ls p n) (by omega) en171.h (lists_iter gP (sc_B gP hnl) true) (by simp [AV.pureL, AV.pureB])) ?_
   refine wz 4 ?_
   refine sq_ev rfl (ev_buildSlice (es := [[_]]) sf106.h rfl rfl rfl rfl) ?_
   first | refine sq_append rfl sf106.h Tryz.underlying106 rfl rfl jz (Nat.succ_pos _) (by simp; omega) (by simp; omega) ?_ | refine sq_append rfl sf106.h Tryz.underlying106 rfl rfl (less_slx _ _) (Nat.succ_pos _) (by simp; omega) (by simp; omega) ?_
   refine wz 2 ?_
   refine aw_drawl [(6, 4), (13, 5), (15, 2), (17, 2)] mo (by kernel_rfl) ?_
   first | refine dl_ev [2, 4, 5] rfl (by kernel_rfl) (ev_fieldAddr fo108_2.h jz) ?_ | refine dl_ev [2, 4, 5] rfl (by kernel_rfl) (ev_fieldAddr_i fo108_2.h jz) ?_
   refine dl_ev [4, 5] rfl (by kernel_rfl) (ev_load jz (mask_get rfl rfl) ty61.h rfl) ?_
   first | refine dl_ev [2, 4, 5] rfl (by kernel_rfl) (ev_mv (v := .sl _ _) jz) ?_ | refine dl_ev [2, 4, 5] rfl (by kernel_rfl) (ev_mv (v := .own _ _ _) jz) ?_ | refine dl_ev [2, 4, 5] rfl (by kernel_rfl) (ev_mv (v := .raw _) jz) ?_ | refine dl_ev [2, 4, 5] rfl (by kernel_rfl) (ev_mv (v := .slx _ _) jz) ?_ | refine dl_ev [2, 4, 5] rfl (by kernel_rfl) (ev_mv (v := .msl _ _ _ _) jz) ?_
   first | refine dl_ev [2, 4, 5] rfl (by kernel_rfl) (ev_len_map sl61.h jz) ?_ | refine dl_ev [2, 4, 5] rfl (by kernel_rfl) (ev_len_map sl61.h (less_own _ _ _)) ?_ | refine dl_ev [2, 4, 5] rfl (by kernel_rfl) (ev_len sl61.h jz rfl) ?_ | refine dl_ev [2, 4, 5] rfl (by kernel_rfl) (ev_len sl61.h (less_own _ _ _) rfl) ?_ | refine dl_ev [2, 4, 5] rfl (by kernel_rfl) (ev_len sl61.h (less_nil _) rfl) ?_ | refine dl_ev [2, 4, 5] rfl (by kernel_rfl) (ev_len_msl sl61.h jz) ?_ | refine dl_ev [2, 4, 5] rfl (by kernel_rfl) (ev_len sl61.h (less_slx _ _) rfl) ?_
   refine dl_fresh' (6 + 2 * n) (planO_len p n _ _) rfl (fresh_row rfl rfl p n (by omega) jz jz) ?_
   refine dl_ev [2, 4, 5] rfl (by kernel_rfl) (ev_buildSlice (es := [[_]]) sf61.h rfl rfl rfl rfl) ?_
   refine dl_eff rfl (by kernel_rfl) rfl rfl (effl_append rfl sf61.h Tryz.underlying61 rfl (less_slx _ _) (by simp) (by simp; omega) (by simp; omega)) ?_
   first | refine dl_ev [2, 4, 5] rfl (by kernel_rfl) (ev_fieldAddr fo108_3.h jz) ?_ | refine dl_ev [2, 4, 5] rfl (by kernel_rfl) (ev_fieldAddr_i fo108_3.h jz) ?_
   refine dl_ev [4, 5] rfl (by kernel_rfl) (ev_load jz (mask_get rfl rfl) ty61.h rfl) ?_
   first | refine dl_ev [2, 4, 5] rfl (by kernel_rfl) (ev_mv (v := .sl _ _) jz) ?_ | refine dl_ev [2, 4, 5] rfl (by kernel_rfl) (ev_mv (v := .own _ _ _) jz) ?_ | refine dl_ev [2, 4, 5] rfl (by kernel_rfl) (ev_mv (v := .raw _) jz) ?_ | refine dl_ev [2, 4, 5] rfl (by kernel_rfl) (ev_mv (v := .slx _ _) jz) ?_ | refine dl_ev [2, 4, 5] rfl (by kernel_rfl) (ev_mv (v := .msl _ _ _ _) jz) ?_
   first | refine dl_ev [2, 4, 5] rfl (by kernel_rfl) (ev_len_map sl61.h jz) ?_ | refine dl_ev [2, 4, 5] rfl (by kernel_rfl) (ev_len_map sl61.h (less_own _ _ _)) ?_ | refine dl_ev [2, 4, 5] rfl (by kernel_rfl) (ev_len sl61.h jz rfl) ?_ | refine dl_ev [2, 4, 5] rfl (by kernel_rfl) (ev_len sl61.h (less_own _ _ _) rfl) ?_ | refine dl_ev [2, 4, 5] rfl (by kernel_rfl) (ev_len sl61.h (less_nil _) rfl) ?_ | refine dl_ev [2, 4, 5] rfl (by kernel_rfl) (ev_len_msl sl61.h jz) ?_ | refine dl_ev [2, 4, 5] rfl (by kernel_rfl) (ev_len sl61.h (less_slx _ _) rfl) ?_
   refine dl_fresh' (7 + 2 * n) (by simp [St.put, rowsK_len]; omega) rfl (fresh_row rfl rfl p n (by omega) jz jz) ?_
   refine dl_ev [2, 4, 5] rfl (by kernel_rfl) (ev_buildSlice (es := [[_]]) sf61.h rfl rfl rfl rfl) ?_
   refine dl_eff rfl (by kernel_rfl) rfl rfl (effl_append rfl sf61.h Tryz.underlying61 rfl (less_slx _ _) (by simp) (by simp; omega) (by simp; omega)) ?_
   first | refine dl_ev [2, 4, 5] rfl (by kernel_rfl) (ev_fieldAddr fo108_2.h jz) ?_ | refine dl_ev [2, 4, 5] rfl (by kernel_rfl) (ev_fieldAddr_i fo108_2.h jz) ?_
   refine dl_eff rfl (by kernel_rfl) rfl rfl (effl_store rfl jz jz rfl ty61.h rfl rfl) ?_
   first | refine dl_ev [2, 4, 5] rfl (by kernel_rfl) (ev_fieldAddr fo108_3.h jz) ?_ | refine dl_ev [2, 4, 5] rfl (by kernel_rfl) (ev_fieldAddr_i fo108_3.h jz) ?_
   refine dl_eff rfl (by kernel_rfl) rfl rfl (effl_store rfl jz jz rfl ty61.h rfl rfl) ?_
   refine dl_nil ?_
   refine wz 2 ?_
   exact ⟨⟨n + 1, by omega⟩, by simp only; omega, Sub.at ⟨jz, jz, jz, jz, jz, trivial⟩ ((planO_succ p n _ _).symm)⟩
  obtain rfl : n = p.scs.length := by omega
  refine aw_exit ?_
  refine aw_seq ?_
  refine aw_sub (sub_recell (b := 2) (l := [I p.left, ints p.hts, fgs p.figs, scs p.scs, .own 3 1 (allE p p.scs.length), .own 4 1 (befE p p.scs.length), .own 5 1 (lefE p p.scs.length)]) (l' := boxS p) rfl (fun e a _ vs hv => (box_less p).rep hv)) ?_
  refine aw_sub (sub_iptrK [1, 2] 3 (j := 2) (l := boxS p) rfl rfl) ?_
  refine nz ?_
  refine wz 2 ?_
  refine sq_ev rfl (ev_less (ev_len_map sl106.h jz) (Less.eq (b := I p.scs.length) (by rw [List.length_range]))) ?_
  refine wz 4 ?_
  refine aw_loopk (ι := { n : Nat // n ≤ p.scs.length - 1 }) [1, 2, 3, 6, 59] (fun g => [(60, I (g.1 : Nat))]) (fun H g => (base6 (allE p p.scs.length).length (befE p p.scs.length).length (lefE p p.scs.length).length ++ rowsK p (fbK p g.1 0) (fun _ _ => 0) p.scs.length)) (fun g => p.scs.length - 1 - g.1) (⟨0, Nat.zero_le _⟩) ⟨jz, jz, jz, jz, jz, jz, trivial⟩ (by rw [fbK_zero]; rfl) ?_
  rintro ⟨n, hn⟩
  refine nz ?_
  refine wz 1 ?_
  refine iz (fun c_61 c_61' => ?_) (fun c_61 c_61' => ?_)
  ·have hn1 : n + 1 < p.scs.length := by omega
   have hal1 : (ls p n).length ≤ 1296 := arr_len gP (sc_B gP (by omega)) true
   have hal2 : (ls p (n + 1)).length ≤ 1296 := arr_len gP (sc_B gP hn1) true
   refine wz 6 ?_
   refine sq_ev rfl (ev_less (ev_index (k := n + 1) (c := [hds (ls p (n + 1))]) sl106.h jz jz (by omega) (by rw [List.getElem?_map, List.getElem?_range (by omega)]; rfl)) jz) ?_
   refine wz 3 ?_
   refine aw_loopk (ι := { k : Nat // k ≤ (ls p (n + 1)).length }) [1, 2, 3, 6, 7, 59, 60, 68, 69] (fun g => [(70, I (g.1 : Nat))]) (fun H g => (base6 (allE p p.scs.length).length (befE p p.scs.length).length (lefE p p.scs.length).length ++ rowsK p (fbK p n g.1) (fun _ _ => 0) p.scs.length)) (fun g => (ls p (n + 1)).length - g.1) (⟨0, Nat.zero_le _⟩) ⟨jz, jz, jz, jz, jz, jz, jz, jz, jz, jz, trivial⟩ rfl ?_
   rintro ⟨k, hk⟩
   refine nz ?_
   refine wz 1 ?_
   refine iz (fun c_71 c_71' => ?_) (fun c_71 c_71' => ?_)
   ·have hkl : k < (ls p (n + 1)).length := by omega
    refine vz 6 ?_
    refine sq_nil ?_
    refine aw_seq ?_
    refine aw_seq ?_
    refine aw_sub (sub_token 10 1 jz) ?_
    refine nz ?_
    refine wz 3 ?_
    refine sq_ev rfl (ev_less (ev_index (k := n) (c := [hds (ls p (n))]) sl106.h jz jz (by omega) (by rw [List.getElem?_map, List.getElem?_range (by omega)]; rfl)) jz) ?_
    refine wz 3 ?_
    refine aw_loopk (ι := { i : Nat // i ≤ (ls p n).length }) [1, 2, 3, 6, 7, 8, 9, 59, 60, 68, 69, 70, 79, 80] (fun g => [(10, .own (base6 (allE p p.scs.length).length (befE p p.scs.length).length (lefE p p.scs.length).length ++ rowsK p (fbK p n k) (fun _ _ => 0) p.scs.length).length 1 ((List.range g.1).map fun q => [I (befI p n q + stp p n ((ls p n).getD q []) ((ls p (n + 1)).getD k []))])), (81, I (g.1 : Nat))]) (fun H g => (base6 (allE p p.scs.length).length (befE p p.scs.length).length (lefE p p.scs.length).length ++ rowsK p (fbK p n k) (fun _ _ => 0) p.scs.length) ++ [.tok ((List.range g.1).map fun q => [I (befI p n q + stp p n ((ls p n).getD q []) ((ls p (n + 1)).getD k []))]).length]) (fun g => (ls p n).length - g.1) (⟨0, Nat.zero_le _⟩) ⟨jz, jz, jz, jz, jz, jz, jz, jz, jz, jz, jz, jz, jz, jz, jz, jz, trivial⟩ rfl ?_
    rintro ⟨i, hi⟩
    refine nz ?_
    refine wz 1 ?_
    refine iz (fun c_82 c_82' => ?_) (fun c_82 c_82' => ?_)
    ·have hil : i < (ls p n).length := by omega
     refine vz 5 ?_
     refine sq_nil ?_
     have hbb := befI_bd gP hA i (i := n) (by omega)
     have htb := turns_bd gP (n := n) (by omega) (ls p n)[i] (ls p (n + 1))[k]
     have hw := wr (n := befI p n i + stp p n (ls p n)[i] (ls p (n + 1))[k]) (by omega) (by omega)
     have eS : ((List.range (i + 1)).map fun q => [I (befI p n q + stp p n ((ls p n).getD q []) ((ls p (n + 1)).getD k []))]) = ((List.range i).map fun q => [I (befI p n q + stp p n ((ls p n).getD q []) ((ls p (n + 1)).getD k []))]) ++ [[I (befI p n i + stp p n (ls p n)[i] (ls p (n + 1))[k])]] := by rw [rng_app, getD_at hil, getD_at hkl]
     refine aw_draw 16 mo (by kernel_rfl) ?_
     refine dz 4 ?_
     refine dr_ev rfl (ev_index (k := n) (c := [.msl (6 + 2 * n) 0 (ls p n).length (ls p n).length]) sl61.h jz jz rfl (by rw [List.getElem?_map, List.getElem?_range (by omega)]; rfl)) ?_
     refine dz 2 ?_
     refine dr_ev rfl (ev_index_msl (k := i) sl22.h jz jz rfl hil) ?_
     refine dr_ev rfl (ev_load (v := I (befI p n i)) jz (row_b (by omega)) ty3.h (by rw [Nat.zero_add, Nat.mul_one, List.getElem?_map, List.getElem?_range hil]; exact congrArg (fun v => some (I v)) (if_pos (Or.inl (Nat.le_refl _))))) ?_
     refine dz 4 ?_
     refine dkz az (turns_pure gP (n := n) (a := (ls p n)[i]) (b := (ls p (n + 1))[k]) hn1 (mem_arr.1 (List.getElem_mem hil)).1 (mem_arr.1 (List.getElem_mem hkl)).1) ?_
     refine dr_ev rfl (ev_add (q := befI p n i + stp p n (ls p n)[i] (ls p (n + 1))[k]) jz jz hw) ?_
     refine dr_ev rfl (ev_buildSlice (es := [[_]]) sf22.h rfl rfl rfl rfl) ?_
     refine dr_end ?_
     refine sq_append' (j := (base6 (allE p p.scs.length).length (befE p p.scs.length).length (lefE p p.scs.length).length ++ rowsK p (fbK p n k) (fun _ _ => 0) p.scs.length).length) rfl sf22.h Tryz.underlying22 rfl (tokAt (base6 (allE p p.scs.length).length (befE p p.scs.length).length (lefE p p.scs.length).length ++ rowsK p (fbK p n k) (fun _ _ => 0) p.scs.length) _) (less_slx _ _) (by simp; omega) (by simp; omega) ?_
     refine wz 3 ?_
     exact ⟨⟨i + 1, by omega⟩, by simp only; omega, Sub.at ⟨Less.eq (by rw [eS] <;> rfl), jz, jz, jz, jz, jz, jz, jz, jz, jz, jz, jz, jz, jz, jz, jz, trivial⟩ (by rw [eS]; show ((base6 (allE p p.scs.length).length (befE p p.scs.length).length (lefE p p.scs.length).length ++ rowsK p (fbK p n k) (fun _ _ => 0) p.scs.length) ++ [_]).set _ _ = _; rw [List.set_append_right _ _ (Nat.le_refl _), Nat.sub_self]; rfl)⟩
    obtain rfl : i = (ls p n).length := by omega
    refine wz 0 ?_
    refine aw_draw 10 mo (by kernel_rfl) ?_
    refine dz 4 ?_
    refine dr_ev rfl (ev_index (k := n + 1) (c := [.msl (6 + 2 * (n + 1)) 0 (ls p (n + 1)).length (ls p (n + 1)).length]) sl61.h jz jz (by omega) (by rw [List.getElem?_map, List.getElem?_range (by omega)]; rfl)) ?_
    refine dz 3 ?_
    refine dr_ev rfl (ev_call en84.h jz (smin_pure ((List.range (ls p n).length).map fun q => befI p n q + stp p n ((ls p n).getD q []) ((ls p (n + 1)).getD k [])) (by rw [List.length_map, List.length_range]; exact List.length_pos_iff.2 (hA n (by omega))) (by rw [List.length_map, List.length_range]; omega)) ⟨Less.trans (less_own _ _ _) (Less.eq (congrArg (AV.sl 1) (by rw [List.map_map]; rfl))), trivial⟩) ?_
    refine dr_ev rfl (ev_index_msl (k := k) sl22.h jz jz rfl hkl) ?_
    refine dr_end ?_
    refine sq_store (j := 6 + 2 * (n + 1)) (off := 0 + k * 1) rfl jz jz rfl (row_b hn1) ty3.h rfl (Nat.ble_eq_true_of_le (by rw [List.length_map, List.length_range]; omega)) ?_
    refine wz 2 ?_
    exact ⟨⟨k + 1, by omega⟩, by simp only; omega, sb ((base6 (allE p p.scs.length).length (befE p p.scs.length).length (lefE p p.scs.length).length ++ rowsK p (fbK p n k) (fun _ _ => 0) p.scs.length)).length ⟨jz, jz, jz, jz, jz, jz, jz, jz, jz, jz, trivial⟩ (hH := (row_store_b (p := p) (a := (allE p p.scs.length).length) (b := (befE p p.scs.length).length) (c := (lefE p p.scs.length).length) hn1 hkl (bef_min p n k))) (hn := by simp [he0]) (h1 := by simp [slotsIn, sget, keepS, AV.inB, AV.inL, AV.inE, -List.map_map]; exact ⟨inE_map fun i _ => by simp [AV.inL, AV.inB], inE_bef p p.scs.length (by rw [rowsK_len]; omega), inE_lef p p.scs.length (by rw [rowsK_len]; omega)⟩) (h2 := base_in _ _ _ _ _)⟩
   obtain rfl : k = (ls p (n + 1)).length := by omega
   refine wz 2 ?_
   exact ⟨⟨n + 1, by omega⟩, by simp only; omega, Sub.at ⟨jz, jz, jz, jz, jz, jz, trivial⟩ (congrArg (fun R => base6 (allE p p.scs.length).length (befE p p.scs.length).length (lefE p p.scs.length).length ++ R) (rowsK_congr fun i hi j hj => ⟨fbK_next hj, rfl⟩))⟩
  obtain rfl : n = p.scs.length - 1 := by omega
  refine wz 3 ?_
  refine aw_loopk (ι := { d : Nat // d ≤ p.scs.length - 1 }) [1, 2, 3] (fun g => [(13, I ((p.scs.length : Int) - 2 - (g.1 : Nat)))]) (fun H g => (base6 (allE p p.scs.length).length (befE p p.scs.length).length (lefE p p.scs.length).length ++ rowsK p (fbK p (p.scs.length - 1) 0) (flD p g.1) p.scs.length)) (fun g => p.scs.length - 1 - g.1) (⟨0, Nat.zero_le _⟩) ⟨(by exact less_int (by simp <;> omega)), jz, jz, jz, trivial⟩ (congrArg (fun R => base6 (allE p p.scs.length).length (befE p p.scs.length).length (lefE p p.scs.length).length ++ R) (rowsK_congr fun i hi j hj => ⟨rfl, flD_zero hi⟩)) ?_
  rintro ⟨d, hd⟩
  refine nz ?_
  refine wz 2 ?_
  refine iz (fun c_119 c_119' => ?_) (fun c_119 c_119' => ?_)
  ·obtain ⟨n, hnd⟩ : ∃ n : Nat, n + 2 + d = p.scs.length := ⟨p.scs.length - 2 - d, by omega⟩
   have en : (p.scs.length : Int) - 2 - (d : Nat) = (n : Nat) := by omega
   have hn1 : n + 1 < p.scs.length := by omega
   have hn0 : n < p.scs.length := by omega
   have hal1 : (ls p n).length ≤ 1296 := arr_len gP (sc_B gP hn0) true
   have hal2 : (ls p (n + 1)).length ≤ 1296 := arr_len gP (sc_B gP hn1) true
   rw [en]
   refine wz 3 ?_
   refine sq_ev rfl (ev_less (ev_index (k := n) (c := [hds (ls p (n))]) sl106.h jz jz (by omega) (by rw [List.getElem?_map, List.getElem?_range (by omega)]; rfl)) jz) ?_
   refine wz 3 ?_
   refine aw_loopk (ι := { k : Nat // k ≤ (ls p n).length }) [1, 2, 3, 13, 126, 127] (fun g => [(128, I (g.1 : Nat))]) (fun H g => (base6 (allE p p.scs.length).length (befE p p.scs.length).length (lefE p p.scs.length).length ++ rowsK p (fbK p (p.scs.length - 1) 0) (flK p n g.1) p.scs.length)) (fun g => (ls p n).length - g.1) (⟨0, Nat.zero_le _⟩) ⟨jz, jz, jz, jz, jz, jz, jz, trivial⟩ (congrArg (fun R => base6 (allE p p.scs.length).length (befE p p.scs.length).length (lefE p p.scs.length).length ++ R) (rowsK_congr fun i hi j hj => ⟨rfl, (flD_in hnd).symm⟩)) ?_
   rintro ⟨k, hk⟩
   refine nz ?_
   refine wz 1 ?_
   refine iz (fun c_129 c_129' => ?_) (fun c_129 c_129' => ?_)
   ·have hkl : k < (ls p n).length := by omega
    refine vz 6 ?_
    refine sq_nil ?_
    refine aw_seq ?_
    refine aw_seq ?_
    refine aw_sub (sub_token 16 1 jz) ?_
    refine nz ?_
    refine wz 4 ?_
    refine sq_ev rfl (ev_less (ev_index (k := n + 1) (c := [hds (ls p (n + 1))]) sl106.h jz jz (by omega) (by rw [List.getElem?_map, List.getElem?_range (by omega)]; rfl)) jz) ?_
    refine wz 3 ?_
    refine aw_loopk (ι := { i : Nat // i ≤ (ls p (n + 1)).length }) [1, 2, 3, 13, 14, 15, 126, 127, 128, 138, 139] (fun g => [(16, .own (base6 (allE p p.scs.length).length (befE p p.scs.length).length (lefE p p.scs.length).length ++ rowsK p (fbK p (p.scs.length - 1) 0) (flK p n k) p.scs.length).length 1 ((List.range g.1).map fun q => [I (lefI p (n + 1) q + stp p n ((ls p n).getD k []) ((ls p (n + 1)).getD q []))])), (140, I (g.1 : Nat))]) (fun H g => (base6 (allE p p.scs.length).length (befE p p.scs.length).length (lefE p p.scs.length).length ++ rowsK p (fbK p (p.scs.length - 1) 0) (flK p n k) p.scs.length) ++ [.tok ((List.range g.1).map fun q => [I (lefI p (n + 1) q + stp p n ((ls p n).getD k []) ((ls p (n + 1)).getD q []))]).length]) (fun g => (ls p (n + 1)).length - g.1) (⟨0, Nat.zero_le _⟩) ⟨jz, jz, jz, jz, jz, jz, jz, jz, jz, jz, jz, jz, jz, trivial⟩ rfl ?_
    rintro ⟨i, hi⟩
    refine nz ?_
    refine wz 1 ?_
    refine iz (fun c_141 c_141' => ?_) (fun c_141 c_141' => ?_)
    ·have hil : i < (ls p (n + 1)).length := by omega
     refine vz 5 ?_
     refine sq_nil ?_
     have hbb := lefI_bd gP hA i (i := n + 1) hn1
     have htb := turns_bd gP (n := n) hn0 (ls p n)[k] (ls p (n + 1))[i]
     have hw := wr (n := lefI p (n + 1) i + stp p n (ls p n)[k] (ls p (n + 1))[i]) (by omega) (by omega)
     have eS : ((List.range (i + 1)).map fun q => [I (lefI p (n + 1) q + stp p n ((ls p n).getD k []) ((ls p (n + 1)).getD q []))]) = ((List.range i).map fun q => [I (lefI p (n + 1) q + stp p n ((ls p n).getD k []) ((ls p (n + 1)).getD q []))]) ++ [[I (lefI p (n + 1) i + stp p n (ls p n)[k] (ls p (n + 1))[i])]] := by rw [rng_app, getD_at hil, getD_at hkl]
     refine aw_draw 17 mo (by kernel_rfl) ?_
     refine dz 5 ?_
     refine dr_ev rfl (ev_index (k := n + 1) (c := [.msl (7 + 2 * (n + 1)) 0 (ls p (n + 1)).length (ls p (n + 1)).length]) sl61.h jz jz (by omega) (by rw [List.getElem?_map, List.getElem?_range (by omega)]; rfl)) ?_
     refine dz 2 ?_
     refine dr_ev rfl (ev_index_msl (k := i) sl22.h jz jz rfl hil) ?_
     refine dr_ev rfl (ev_load (v := I (lefI p (n + 1) i)) jz (row_l hn1) ty3.h (by rw [Nat.zero_add, Nat.mul_one, List.getElem?_map, List.getElem?_range hil]; exact congrArg (fun v => some (I v)) (if_pos (Or.inl (Nat.lt_succ_self n))))) ?_
     refine dz 4 ?_
     refine dkz az (turns_pure gP (n := n) (a := (ls p n)[k]) (b := (ls p (n + 1))[i]) hn1 (mem_arr.1 (List.getElem_mem hkl)).1 (mem_arr.1 (List.getElem_mem hil)).1) ?_
     refine dr_ev rfl (ev_add (q := lefI p (n + 1) i + stp p n (ls p n)[k] (ls p (n + 1))[i]) jz jz hw) ?_
     refine dr_ev rfl (ev_buildSlice (es := [[_]]) sf22.h rfl rfl rfl rfl) ?_
     refine dr_end ?_
     refine sq_append' (j := (base6 (allE p p.scs.length).length (befE p p.scs.length).length (lefE p p.scs.length).length ++ rowsK p (fbK p (p.scs.length - 1) 0) (flK p n k) p.scs.length).length) rfl sf22.h Tryz.underlying22 rfl (tokAt (base6 (allE p p.scs.length).length (befE p p.scs.length).length (lefE p p.scs.length).length ++ rowsK p (fbK p (p.scs.length - 1) 0) (flK p n k) p.scs.length) _) (less_slx _ _) (by simp; omega) (by simp; omega) ?_
     refine wz 3 ?_
     exact ⟨⟨i + 1, by omega⟩, by simp only; omega, Sub.at ⟨Less.eq (by rw [eS] <;> rfl), jz, jz, jz, jz, jz, jz, jz, jz, jz, jz, jz, jz, trivial⟩ (by rw [eS]; show ((base6 (allE p p.scs.length).length (befE p p.scs.length).length (lefE p p.scs.length).length ++ rowsK p (fbK p (p.scs.length - 1) 0) (flK p n k) p.scs.length) ++ [_]).set _ _ = _; rw [List.set_append_right _ _ (Nat.le_refl _), Nat.sub_self]; rfl)⟩
    obtain rfl : i = (ls p (n + 1)).length := by omega
    refine wz 0 ?_
    refine aw_draw 9 mo (by kernel_rfl) ?_
    refine dz 3 ?_
    refine dr_ev rfl (ev_index (k := n) (c := [.msl (7 + 2 * (n)) 0 (ls p (n)).length (ls p (n)).length]) sl61.h jz jz (by omega) (by rw [List.getElem?_map, List.getElem?_range (by omega)]; rfl)) ?_
    refine dz 3 ?_
    refine dr_ev rfl (ev_call en84.h jz (smin_pure ((List.range (ls p (n + 1)).length).map fun q => lefI p (n + 1) q + stp p n ((ls p n).getD k []) ((ls p (n + 1)).getD q [])) (by rw [List.length_map, List.length_range]; exact List.length_pos_iff.2 (hA (n + 1) hn1)) (by rw [List.length_map, List.length_range]; omega)) ⟨Less.trans (less_own _ _ _) (Less.eq (congrArg (AV.sl 1) (by rw [List.map_map]; rfl))), trivial⟩) ?_
    refine dr_ev rfl (ev_index_msl (k := k) sl22.h jz jz rfl hkl) ?_
    refine dr_end ?_
    refine sq_store (j := 7 + 2 * n) (off := 0 + k * 1) rfl jz jz rfl (row_l hn0) ty3.h rfl (Nat.ble_eq_true_of_le (by rw [List.length_map, List.length_range]; omega)) ?_
    refine wz 2 ?_
    exact ⟨⟨k + 1, by omega⟩, by simp only; omega, sb (base6 (allE p p.scs.length).length (befE p p.scs.length).length (lefE p p.scs.length).length ++ rowsK p (fbK p (p.scs.length - 1) 0) (flK p n k) p.scs.length).length ⟨jz, jz, jz, jz, jz, jz, jz, trivial⟩ (hH := (row_store_l (p := p) (a := (allE p p.scs.length).length) (b := (befE p p.scs.length).length) (c := (lefE p p.scs.length).length) hn0 hkl (lef_min p n k hn1))) (hn := by simp [he0]) (h1 := by simp [slotsIn, sget, keepS, AV.inB, AV.inL, AV.inE, -List.map_map]; exact ⟨inE_map fun i _ => by simp [AV.inL, AV.inB], inE_bef p p.scs.length (by rw [rowsK_len]; omega), inE_lef p p.scs.length (by rw [rowsK_len]; omega)⟩) (h2 := base_in _ _ _ _ _)⟩
   obtain rfl : k = (ls p n).length := by omega
   refine wz 3 ?_
   exact ⟨⟨d + 1, by omega⟩, by simp only; omega, Sub.at ⟨(by exact less_int (by simp <;> omega)), jz, jz, jz, trivial⟩ (congrArg (fun R => base6 (allE p p.scs.length).length (befE p p.scs.length).length (lefE p p.scs.length).length ++ R) (rowsK_congr fun i hi j hj => ⟨rfl, flD_out hnd hj⟩))⟩
  obtain rfl : d = p.scs.length - 1 := by omega
  refine aw_exit ?_
  refine aw_seq ?_
  have hfz := box_fz (p := p) (fb := fbK p (p.scs.length - 1) 0) (fl := flD p (p.scs.length - 1)) (a := (allE p p.scs.length).length) (b := (befE p p.scs.length).length) (c := (lefE p p.scs.length).length) (fun i hi k => by unfold fbK; rw [if_pos (.inl (by omega))]) (fun i hi k => by unfold flD; rw [if_pos (by omega)])
  refine aw_sub (sub_freezeA 6 (sl' := [(2, .ptr 1 0), (3, .iptr (planC p))]) (by show 6 ≤ (base6 _ _ _ ++ rowsK _ _ _ _).length; rw [List.length_append]; exact Nat.le_add_right 6 _) (fun q hq => base_tok q hq) (fun q hq => by rcases List.mem_cons.1 hq with rfl | hq; exact FzA.same _; (obtain rfl := List.mem_singleton.1 hq); exact hfz)) ?_
  refine wz 2 ?_
  exact retQ_res (vs := [.agg _]) rfl rfl ⟨resVar_cell rfl rfl ty108.h rfl, trivial⟩ jz
end Go.Proofs.YtfmpabgblbbcdaaGreatDoor
namespace Go.Proofs.YtfmpabgblbbcdaaGreatDoor
open Go Go.Ab Ni St
open Hd hiding sz
instance en123 : EnT Tryz.prog 123 := ⟨Ent.of Tryz.func123 (by kernel_rfl) rfl⟩
instance fo148_1 : FoF Tryz.prog 148 1 1 3 := ⟨by kernel_rfl⟩
instance sl146 : SlE Tryz.prog 146 148 2 := ⟨by kernel_rfl⟩
instance ty148 : TyF Tryz.prog 148 true 2 := ⟨by kernel_rfl⟩
instance z148 : ZeO Tryz.prog 148 [.raw (.int .i64 0), .raw (.int .i64 0)] := ⟨by kernel_rfl⟩
abbrev goC (w : Int × Int) : List AV := [I w.1, I w.2]
@[simp] theorem inE_gos (n : Nat) (l : List (Int × Int)) : AV.inE n (l.map goC) = true := inE_map fun x _ => by simp [AV.inL, AV.inB]
@[simp] theorem pureE_gos (l : List (Int × Int)) : AV.pureE (l.map goC) = true := pureE_map fun x _ => by simp [AV.pureL, AV.pureB]
def bstK (W : List (Int × Int)) : Nat → Int × Int
  | 0 => W.getD 0 (0, 0)
  | k + 1 => if (W.getD (k + 1) (0, 0)).2 < (bstK W k).2 then W.getD (k + 1) (0, 0) else bstK W k
theorem plan1_pure (a b : Int × Int) : APure Tryz.prog 123 [.agg (goC a), .agg (goC b)] (B (decide (a.2 < b.2))) := by
  refine ap Tryz.func123 (fun e0 he0 => ?_)
  refine wz 9 ?_
  exact rz rfl jz
theorem best_pure (W : List (Int × Int)) (h0 : 0 < W.length) (hl : W.length ≤ 1000000) : APure Tryz.prog 122 [.sl 2 (W.map goC), .fn (.func 123) [] []] (.agg (goC (bstK W (W.length - 1)))) := by
  refine ap Tryz.func122 (fun e0 he0 => ?_)
  refine aw_seq ?_
  have hg0 := getD_at (d := ((0 : Int), (0 : Int))) h0
  obtain ⟨Z, hZ⟩ : ∃ Z, Z = W.drop 1 := ⟨_, rfl⟩
  have hzl : Z.length = W.length - 1 := by rw [hZ, List.length_drop]
  refine wz 2 ?_
  refine sq_ev rfl (ev_index_map (k := 0) (xs := W) (f := goC) sl146.h jz jz rfl h0) ?_
  refine wz 4 ?_
  refine sq_ev rfl (ev_less (ev_slice (lo := 1) (hi := W.length) sl146.h jz jz (by simp) (by omega) (by simp)) (Less.eq (b := .sl 2 (Z.map goC)) (by rw [hZ, List.take_of_length_le (by simp), List.map_drop]))) ?_
  refine wz 2 ?_
  refine aw_loopk (ι := { k : Nat // k ≤ W.length - 1 }) [1, 4, 5, 12, 13] (fun k => [(14, I (k.1 : Nat))]) (fun H k => H.set 1 (.cells (goC (bstK W k.1)))) (fun k => W.length - 1 - k.1) (⟨0, Nat.zero_le _⟩) ⟨jz, jz, jz, jz, jz, jz, trivial⟩ (by show _ = _; unfold bstK; rw [hg0]; rfl) ?_
  rintro ⟨k, hk⟩
  refine nz ?_
  refine wz 1 ?_
  refine iz (fun c_15 c_15' => ?_) (fun c_15 c_15' => ?_)
  ·have hkl : k + 1 < W.length := by omega
   refine wz 0 ?_
   refine sq_ev rfl (ev_less (ev_index_map (k := k) (xs := Z) (f := goC) sl146.h jz jz rfl (by omega)) (Less.eq (b := .iptr (goC (W.getD (k + 1) (0, 0)))) (by rw [getD_at (show k + 1 < W.length by omega)]; simp only [hZ, List.getElem_drop, Nat.add_comm 1 k]))) ?_
   refine wz 6 ?_
   refine sq_ev rfl (ev_call en123.h jz (plan1_pure (W.getD (k + 1) (0, 0)) (bstK W k)) ⟨jz, jz, trivial⟩) ?_
   refine wz 0 ?_
   refine iz (fun c_21 c_21' => ?_) (fun c_21 c_21' => ?_)
   ·have eS : bstK W (k + 1) = W.getD (k + 1) (0, 0) := by rw [bstK, if_pos (by simpa using c_21)]
    refine wz 4 ?_
    exact ⟨⟨k + 1, by omega⟩, by simp only; omega, sb 2 ⟨jz, jz, jz, jz, jz, jz, trivial⟩ (hH := (congrArg (fun g => [_, AObj.cells (goC g)]) eS.symm))⟩
   have eS : bstK W (k + 1) = bstK W k := by rw [bstK, if_neg (by simpa using c_21)]
   refine wz 2 ?_
   exact ⟨⟨k + 1, by omega⟩, by simp only; omega, sb 2 ⟨jz, jz, jz, jz, jz, jz, trivial⟩ (hH := (congrArg (fun g => [_, AObj.cells (goC g)]) eS.symm))⟩
  obtain rfl : k = W.length - 1 := by omega
  refine wz 2 ?_
  exact retQ_res (vs := [.agg _]) rfl rfl ⟨resVar_cell rfl rfl ty148.h rfl, trivial⟩ jz
end Go.Proofs.YtfmpabgblbbcdaaGreatDoor
namespace Go.Proofs.YtfmpabgblbbcdaaGreatDoor
open Go Go.Ab Ni St
open Hd hiding sz
instance bi148 : BdI Tryz.prog 148 [.raw (.int .i64 0), .raw (.int .i64 0)] true [(0, 1), (1, 1)] 0 := ⟨by kernel_rfl⟩
instance en122 : EnT Tryz.prog 122 := ⟨Ent.of Tryz.func122 (by kernel_rfl) rfl⟩
instance en83 : EnT Tryz.prog 83 := ⟨Ent.of Tryz.func83 (by kernel_rfl) rfl⟩
instance fo148_0 : FoF Tryz.prog 148 0 0 3 := ⟨by kernel_rfl⟩
instance sf146 : SlS Tryz.prog 146 148 2 16 := ⟨SlFact.of (by kernel_rfl)⟩
instance ud146 : UnD Tryz.prog 146 (.slice 148) := ⟨Tryz.underlying146⟩
theorem bstK_ix (W : List (Int × Int)) : ∀ k, ∃ j, j ≤ k ∧ bstK W k = W.getD j (0, 0) ∧ (∀ i, i ≤ k → (W.getD j (0, 0)).2 ≤ (W.getD i (0, 0)).2) ∧ ∀ i, i < j → (W.getD j (0, 0)).2 < (W.getD i (0, 0)).2
  | 0 => ⟨0, Nat.le_refl _, rfl, fun i hi => by obtain rfl : i = 0 := by omega
                                                exact Int.le_refl _, fun i hi => absurd hi (Nat.not_lt_zero _)⟩
  | k + 1 => by
    obtain ⟨j, h1, h2, h3, h4⟩ := bstK_ix W k
    unfold bstK
    rw [h2]
    by_cases h : (W.getD (k + 1) (0, 0)).2 < (W.getD j (0, 0)).2
    · rw [if_pos h]
      refine ⟨k + 1, Nat.le_refl _, rfl, fun i hi => ?_, fun i hi => ?_⟩
      · rcases Nat.lt_or_ge k i with q | q
        · obtain rfl : i = k + 1 := by omega
          exact Int.le_refl _
        · have := h3 i q; omega
      · have := h3 i (by omega); omega
    · rw [if_neg h]
      refine ⟨j, by omega, rfl, fun i hi => ?_, h4⟩
      rcases Nat.lt_or_ge k i with q | q
      · obtain rfl : i = k + 1 := by omega
        omega
      · exact h3 i q
def wayV (p : Ply) (prev : List Int) (n i : Nat) : Int := lefI p n i + (if n = 0 then 0 else stp p (n - 1) prev ((ls p n).getD i []))
def ways (p : Ply) (prev : List Int) (n m : Nat) : List (Int × Int) := (List.range m).map fun (i : Nat) => ((i : Int), wayV p prev n i)
theorem ways_len (p : Ply) (prev : List Int) (n m : Nat) : (ways p prev n m).length = m := by unfold ways; simp
theorem ways_succ (p : Ply) (prev : List Int) (n m : Nat) : ways p prev n (m + 1) = ways p prev n m ++ [((m : Int), wayV p prev n m)] := by unfold ways; rw [List.range_succ, List.map_append]; rfl
theorem ways_get {p : Ply} {prev : List Int} {n m i : Nat} (h : i < m) : (ways p prev n m).getD i (0, 0) = ((i : Int), wayV p prev n i) := by
  rw [getD_at (by rw [ways_len]; exact h)]; unfold ways; simp
def bestW (p : Ply) (prev : List Int) (n : Nat) : Int × Int := bstK (ways p prev n (ls p n).length) ((ls p n).length - 1)
theorem bestW_ix {p : Ply} {n : Nat} (prev : List Int) (h : 0 < (ls p n).length) : ∃ j : Nat, j < (ls p n).length ∧ bestW p prev n = ((j : Int), wayV p prev n j) ∧ (∀ i, i < (ls p n).length → wayV p prev n j ≤ wayV p prev n i) ∧ ∀ i, i < j → wayV p prev n j < wayV p prev n i := by
  obtain ⟨j, h1, h2, h3, h4⟩ := bstK_ix (ways p prev n (ls p n).length) ((ls p n).length - 1)
  refine ⟨j, by omega, by unfold bestW; rw [h2, ways_get (by omega)], fun i hi => ?_, fun i hi => ?_⟩
  · have := h3 i (by omega); rwa [ways_get (by omega), ways_get hi] at this
  · have := h4 i hi; rwa [ways_get (by omega), ways_get (by omega)] at this
def pick (p : Ply) : Nat → List (List Int)
  | 0 => []
  | n + 1 => pick p n ++ [(ls p n).getD (bestW p ((pick p n).getD (n - 1) []) n).1.toNat []]
def totP (p : Ply) : Int := (bestW p [] 0).2
theorem pick_len (p : Ply) : ∀ n, (pick p n).length = n
  | 0 => rfl
  | n + 1 => by unfold pick; rw [List.length_append, pick_len p n]; rfl
theorem pick_succ (p : Ply) (n : Nat) : pick p (n + 1) = pick p n ++ [(ls p n).getD (bestW p ((pick p n).getD (n - 1) []) n).1.toNat []] := rfl
theorem pick_take (p : Ply) : ∀ {m n : Nat}, n ≤ m → (pick p m).take n = pick p n
  | 0, n, h => by obtain rfl : n = 0 := by omega
                  rfl
  | m + 1, n, h => by
    rcases Nat.lt_or_ge m n with q | q
    · obtain rfl : n = m + 1 := by omega
      exact List.take_of_length_le (by rw [pick_len]; exact Nat.le_refl _)
    · rw [pick_succ, List.take_append_of_le_length (by rw [pick_len]; exact q)]; exact pick_take p q
theorem pick_get (p : Ply) {i n : Nat} (h : i < n) : (pick p n)[i]'(by rw [pick_len]; exact h) = (ls p i).getD (bestW p ((pick p i).getD (i - 1) []) i).1.toNat [] := by
  have e := pick_take p (n := i + 1) (m := n) (by omega)
  have e2 : (pick p n)[i]'(by rw [pick_len]; exact h) = ((pick p n).take (i + 1))[i]'(by rw [List.length_take, pick_len]; omega) := by rw [List.getElem_take]
  rw [e2]
  simp only [e]
  simp only [pick]
  rw [List.getElem_append_right (by rw [pick_len]; exact Nat.le_refl _)]; simp [pick_len]
theorem pick_ix {p : Ply} {i n : Nat} (h : i < n) (hA : ls p i ≠ []) : ∃ j : Nat, ∃ hj : j < (ls p i).length, (pick p n)[i]'(by rw [pick_len]; exact h) = (ls p i)[j] ∧
    (∀ k, k < (ls p i).length → wayV p ((pick p i).getD (i - 1) []) i j ≤ wayV p ((pick p i).getD (i - 1) []) i k) ∧ ∀ k, k < j → wayV p ((pick p i).getD (i - 1) []) i j < wayV p ((pick p i).getD (i - 1) []) i k := by
  obtain ⟨j, h1, h2, h3, h4⟩ := bestW_ix (p := p) ((pick p i).getD (i - 1) []) (List.length_pos_iff.2 hA)
  refine ⟨j, h1, ?_, h3, h4⟩
  rw [pick_get p h, h2, Int.toNat_natCast, getD_at h1]
theorem pick_in {p : Ply} {i n : Nat} (h : i < n) (hA : ls p i ≠ []) : (pick p n)[i]'(by rw [pick_len]; exact h) ∈ ls p i := by
  obtain ⟨j, hj, e, _⟩ := pick_ix h hA
  rw [e]; exact List.getElem_mem hj
theorem can_arr {p : Ply} {x : Scn} (h : St.can p x = true) : arr true p x ≠ [] := by
  unfold St.can at h; intro e; rw [e] at h; simp at h
theorem all_arr {p : Ply} (h : failsAt p = none) : ∀ i, i < p.scs.length → ls p i ≠ [] := fun i hi => can_arr (fails_none h i hi)
abbrev prevP (p : Ply) (n : Nat) : List Int := (pick p n).getD (n - 1) []
theorem xplan_ok {p : Ply} (hh : p.hts.length ≤ 1000000) (hf : p.figs.length ≤ 1000000) (hs : p.scs.length ≤ 1000000) (hx : ∀ x ∈ p.scs, x.moved.length ≤ 1000000 ∧ x.rest.length ≤ 1000000 ∧ x.taken.length ≤ 1000000) (h1 : plOK p = true) (h2 : failsAt p = none) : APure Tryz.prog 61 [plA p] (.tup [.sl 1 ((pick p p.scs.length).map fun l => [ints l]), I (totP p), I 0]) := by
  refine ap Tryz.func61 (fun e0 he0 => ?_)
  refine vz 4 ?_
  refine sq_nil ?_
  refine aw_seq ?_
  refine aw_seq ?_
  have hpl := isplay_pure p hh hf hs hx
  rw [h1] at hpl
  have gP := plOK_B h1
  have hA := all_arr h2
  have hns := gP.ns
  refine wz 1 ?_
  refine kz az (hpl) ?_
  refine wz 3 ?_
  refine kz az (fails_y gP h2) ?_
  refine sq_ev rfl (ev_mv (v := .tup [.agg [I 0, I 0], I 0]) jz) ?_
  refine wz 9 ?_
  refine kz az (plan_pure gP hA) ?_
  refine vz 2 ?_
  refine sq_nil ?_
  refine aw_seq ?_
  refine aw_sub (sub_iptrK [1] 7 (j := 2) (l := planC p) rfl rfl) ?_
  refine nz ?_
  refine wz 4 ?_
  refine sq_ev rfl (ev_less (ev_len_map sl106.h jz) (Less.eq (b := I p.scs.length) (by rw [List.length_range]))) ?_
  refine vz 1 ?_
  refine sq_nil ?_
  refine aw_block ?_
  refine aw_sub (sub_token 8 1 jz) ?_
  refine aw_loopk (ι := { n : Nat // n ≤ p.scs.length }) [1, 7, 31, 32] (fun g => [(33, I (g.1 : Nat)), (8, .own 3 1 ((pick p g.1).map fun l => [ints l])), (9, I (if g.1 = 0 then 0 else totP p))]) (fun H g => H.set 3 (.tok ((pick p g.1).map fun l => [ints l]).length)) (fun g => p.scs.length - g.1) (⟨0, Nat.zero_le _⟩) ⟨jz, jz, jz, jz, jz, jz, jz, trivial⟩ rfl ?_
  rintro ⟨n, hn⟩
  refine nz ?_
  have hpk := pick_len p n
  refine wz 1 ?_
  refine iz (fun c_34 c_34' => ?_) (fun c_34 c_34' => ?_)
  ·have hnl : n < p.scs.length := by omega
   have hal : (ls p n).length ≤ 1296 := arr_len gP (sc_B gP hnl) true
   refine wz 1 ?_
   refine sq_ev rfl (ev_less (ev_index (k := n) (c := [hds (ls p n)]) sl106.h jz jz rfl (by rw [List.getElem?_map, List.getElem?_range hnl]; rfl)) jz) ?_
   refine vz 7 ?_
   refine sq_nil ?_
   refine aw_block ?_
   refine aw_sub (sub_token 12 2 jz) ?_
   refine aw_loopk (ι := { i : Nat // i ≤ (ls p n).length }) [1, 7, 8, 9, 10, 11, 31, 32, 33, 38, 39] (fun g => [(40, I (g.1 : Nat)), (12, .own 4 2 ((ways p (prevP p n) n g.1).map goC))]) (fun H g => H.set 4 (.tok ((ways p (prevP p n) n g.1).map goC).length)) (fun g => (ls p n).length - g.1) (⟨0, Nat.zero_le _⟩) ⟨jz, jz, jz, jz, jz, jz, jz, jz, jz, jz, jz, jz, jz, trivial⟩ rfl ?_
   rintro ⟨i, hi⟩
   refine nz ?_
   have hwi := ways_len p (prevP p n) n i
   refine wz 1 ?_
   refine iz (fun c_41 c_41' => ?_) (fun c_41 c_41' => ?_)
   ·have hil : i < (ls p n).length := by omega
    have hbb := lefI_bd gP hA i (i := n) hnl
    refine wz 9 ?_
    refine sq_ev rfl (ev_less (ev_index (k := n) (c := [ints (lefR p n)]) sl61.h jz jz rfl (by rw [List.getElem?_map, List.getElem?_range hnl]; rfl)) jz) ?_
    refine wz 2 ?_
    refine sq_ev rfl (ev_index_map (k := i) (xs := lefR p n) sl22.h jz jz rfl (by rw [List.length_map, List.length_range]; exact hil)) ?_
    refine sq_ev rfl (ev_load_i (v := I (lefI p n i)) jz ty3.h (by simp)) ?_
    refine wz 5 ?_
    refine iz (fun c_56 c_56' => ?_) (fun c_56 c_56' => ?_)
    ·obtain ⟨m, rfl⟩ : ∃ m, n = m + 1 := ⟨n - 1, by omega⟩
     have hpm : (pick p (m + 1))[m]'(by rw [pick_len]; omega) ∈ ls p m := pick_in (Nat.lt_succ_self m) (hA m (by omega))
     have hpa := (mem_arr.1 hpm).1
     have htb := turns_bd gP (n := m) (by omega) (pick p (m + 1))[m] (ls p (m + 1))[i]
     have hw := wr (n := lefI p (m + 1) i + stp p m (pick p (m + 1))[m] (ls p (m + 1))[i]) (by omega) (by omega)
     have eW : ((ways p (prevP p (m + 1)) (m + 1) (i + 1)).map goC) = ((ways p (prevP p (m + 1)) (m + 1) i).map goC) ++ [[I i, I (lefI p (m + 1) i + stp p m (pick p (m + 1))[m] (ls p (m + 1))[i])]] := by rw [ways_succ, List.map_append]; unfold wayV prevP; rw [if_neg (by omega), Nat.add_sub_cancel, getD_at (show m < (pick p (m + 1)).length by rw [pick_len]; omega), getD_at hil]; rfl
     refine aw_draw 14 mo (by kernel_rfl) ?_
     refine dz 4 ?_
     refine dr_ev rfl (ev_sub (q := ((m : Nat) : Int)) jz jz (by rw [wr (by omega) (by omega)]; omega)) ?_
     refine dz 2 ?_
     refine dr_ev rfl (ev_sub (q := ((m : Nat) : Int)) jz jz (by rw [wr (by omega) (by omega)]; omega)) ?_
     refine dr_ev rfl (ev_index_map (k := m) (xs := pick p (m + 1)) sl61.h (less_own _ _ _) jz (by omega) (by rw [pick_len]; omega)) ?_
     refine dz 2 ?_
     refine dkz az (turns_pure gP (n := m) hnl (a := (pick p (m + 1))[m]) (b := (ls p (m + 1))[i]) hpa (mem_arr.1 (List.getElem_mem hil)).1) ?_
     refine dr_ev rfl (ev_add (q := lefI p (m + 1) i + stp p m (pick p (m + 1))[m] (ls p (m + 1))[i]) jz jz hw) ?_
     refine dz 1 ?_
     refine vz 1 ?_
     refine sq_nil ?_
     refine nz ?_
     refine wz 2 ?_
     refine sq_ev rfl (ev_buildSlice (es := [[_, _]]) sf146.h rfl rfl rfl rfl) ?_
     refine sq_append rfl sf146.h Tryz.underlying146 rfl rfl (less_slx _ _) (Nat.succ_pos _) (by rw [List.length_map, ways_len]; simp only [List.length_cons, List.length_nil]; omega) (by rw [List.length_map, ways_len]; simp only [List.length_cons, List.length_nil]; omega) ?_
     refine wz 3 ?_
     exact ⟨⟨i + 1, by omega⟩, by simp only; omega, sb 5 ⟨jz, Less.eq (by rw [eW] <;> rfl), jz, jz, jz, jz, jz, jz, jz, jz, jz, jz, jz, trivial⟩ (hH := (congrArg (fun m => [_, _, _, _, AObj.tok m]) (congrArg List.length eW.symm)))⟩
    obtain rfl : n = 0 := by omega
    have eW : ((ways p (prevP p 0) 0 (i + 1)).map goC) = ((ways p (prevP p 0) 0 i).map goC) ++ [[I i, I (lefI p 0 i)]] := by rw [ways_succ, List.map_append]; unfold wayV; rw [if_pos rfl, Int.add_zero]; rfl
    refine aw_skip ?_
    refine nz ?_
    refine wz 2 ?_
    refine sq_ev rfl (ev_buildSlice (es := [[_, _]]) sf146.h rfl rfl rfl rfl) ?_
    refine sq_append rfl sf146.h Tryz.underlying146 rfl rfl (less_slx _ _) (Nat.succ_pos _) (by rw [List.length_map, ways_len]; simp only [List.length_cons, List.length_nil]; omega) (by rw [List.length_map, ways_len]; simp only [List.length_cons, List.length_nil]; omega) ?_
    refine wz 3 ?_
    exact ⟨⟨i + 1, by omega⟩, by simp only; omega, sb 5 ⟨jz, Less.eq (by rw [eW] <;> rfl), jz, jz, jz, jz, jz, jz, jz, jz, jz, jz, jz, trivial⟩ (hH := (congrArg (fun m => [_, _, _, _, AObj.tok m]) (congrArg List.length eW.symm)))⟩
   obtain rfl : i = (ls p n).length := by omega
   refine aw_exit ?_
   refine aw_seq ?_
   have hl0 : 0 < (ls p n).length := List.length_pos_iff.2 (hA n hnl)
   obtain ⟨j, hj, hbw, hmin, hfst⟩ := bestW_ix (prevP p n) hl0
   have hwl := ways_len p (prevP p n) n (ls p n).length
   have eS : ((pick p (n + 1)).map fun l => [ints l]) = ((pick p n).map fun l => [ints l]) ++ [[ints (ls p n)[j]]] := by rw [show pick p (n + 1) = pick p n ++ [(ls p n)[j]] by rw [pick, hbw, Int.toNat_natCast, getD_at hj], List.map_append]; rfl
   refine wz 1 ?_
   refine sq_ev rfl (ev_less (ev_call en122.h jz (best_pure (ways p (prevP p n) n (ls p n).length) (by omega) (by omega)) ⟨less_own _ _ _, jz, trivial⟩) (Less.eq (b := .agg [I j, I (wayV p (prevP p n) n j)]) (by rw [hwl, show bstK (ways p (prevP p n) n (ls p n).length) ((ls p n).length - 1) = _ from hbw]))) ?_
   refine wz 4 ?_
   refine iz (fun c_79 c_79' => ?_) (fun c_79 c_79' => ?_)
   ·have hn0 : n = 0 := by omega
    have eT : wayV p (prevP p n) n j = if n + 1 = 0 then 0 else totP p := by subst hn0; rw [if_neg (by omega)]; exact (congrArg Prod.snd hbw).symm
    refine wz 7 ?_
    refine sq_ev rfl (ev_index_map (k := j) (xs := ls p n) sl61.h jz jz rfl hj) ?_
    refine wz 1 ?_
    refine sq_ev rfl (ev_buildSlice (es := [[_]]) sf61.h rfl rfl rfl rfl) ?_
    first | refine sq_append rfl sf61.h Tryz.underlying61 rfl rfl jz (Nat.succ_pos _) (by simp; omega) (by simp; omega) ?_ | refine sq_append rfl sf61.h Tryz.underlying61 rfl rfl (less_slx _ _) (Nat.succ_pos _) (by simp; omega) (by simp; omega) ?_
    refine wz 3 ?_
    exact ⟨⟨n + 1, by omega⟩, by simp only; omega, sb 4 ⟨jz, Less.eq (by rw [eS] <;> rfl), (by exact less_int eT), jz, jz, jz, jz, trivial⟩ (hH := (congrArg (fun m => [_, _, _, AObj.tok m]) (congrArg List.length eS.symm)))⟩
   have hn0 : n ≠ 0 := by omega
   have eT : (if n = 0 then 0 else totP p) = if n + 1 = 0 then 0 else totP p := by rw [if_neg hn0, if_neg (by omega)]
   refine wz 4 ?_
   refine sq_ev rfl (ev_index_map (k := j) (xs := ls p n) sl61.h jz jz rfl hj) ?_
   refine wz 1 ?_
   refine sq_ev rfl (ev_buildSlice (es := [[_]]) sf61.h rfl rfl rfl rfl) ?_
   first | refine sq_append rfl sf61.h Tryz.underlying61 rfl rfl jz (Nat.succ_pos _) (by simp; omega) (by simp; omega) ?_ | refine sq_append rfl sf61.h Tryz.underlying61 rfl rfl (less_slx _ _) (Nat.succ_pos _) (by simp; omega) (by simp; omega) ?_
   refine wz 3 ?_
   exact ⟨⟨n + 1, by omega⟩, by simp only; omega, sb 4 ⟨jz, Less.eq (by rw [eS] <;> rfl), (by exact less_int eT), jz, jz, jz, jz, trivial⟩ (hH := (congrArg (fun m => [_, _, _, AObj.tok m]) (congrArg List.length eS.symm)))⟩
  obtain rfl : n = p.scs.length := by omega
  refine wz 5 ?_
  exact retQ_pure (v := .tup [.own _ _ _, .raw _, .raw _]) rfl rfl (less_tup ⟨less_own _ _ _, Less.eq (by rw [if_neg (by omega)]), jz, trivial⟩)
end Go.Proofs.YtfmpabgblbbcdaaGreatDoor
namespace Go.Proofs.YtfmpabgblbbcdaaGreatDoor
open Go Go.Ab Ni St
open Hd hiding sz
instance sf35 : SlS Tryz.prog 35 94 1 8 := ⟨SlFact.of (by kernel_rfl)⟩
instance sl111 : SlE Tryz.prog 111 4 1 := ⟨by kernel_rfl⟩
instance ud35 : UnD Tryz.prog 35 (.slice 94) := ⟨Tryz.underlying35⟩
def fewP (p : Ply) : Int := mnL (lefR p 0)
def bstI (p : Ply) (n i : Nat) : Bool := decide (befI p n i + lefI p n i = fewP p)
def plcI (p : Ply) (n a i : Nat) : Int := ((ls p n).getD i []).getD a 0
def metB (p : Ply) (n a m : Nat) (k : Nat) : Bool := decide (∃ i, i < m ∧ bstI p n i = true ∧ plcI p n a i = (k : Int))
def metK (p : Ply) (n a m : Nat) : List Bool := (List.range p.hts.length).map (metB p n a m)
def mny (l : List Bool) : Nat := (l.filter id).length
def wrdK (l : List Bool) (k : Nat) : List Int := (l.take k).map fun b => if b = false then 1 else if mny l = 1 then 3 else 2
def whr (p : Ply) (n a : Nat) : List Int := wrdK (metK p n a (ls p n).length) p.hts.length
theorem metK_len (p : Ply) (n a m : Nat) : (metK p n a m).length = p.hts.length := by unfold metK; simp
theorem metB_succ (p : Ply) (n a m k : Nat) : metB p n a (m + 1) k = (metB p n a m k || (bstI p n m && decide (plcI p n a m = (k : Int)))) := by
  unfold metB
  rw [Bool.eq_iff_iff]
  simp only [Bool.or_eq_true, Bool.and_eq_true, decide_eq_true_eq]
  constructor
  · rintro ⟨i, h1, h2, h3⟩
    rcases Nat.lt_or_ge i m with q | q
    · exact .inl ⟨i, q, h2, h3⟩
    · obtain rfl : i = m := by omega
      exact .inr ⟨h2, h3⟩
  · rintro (⟨i, h1, h2, h3⟩ | ⟨h2, h3⟩)
    · exact ⟨i, by omega, h2, h3⟩
    · exact ⟨m, by omega, h2, h3⟩
theorem metK_get {p : Ply} {n a m k : Nat} (h : k < p.hts.length) : (metK p n a m)[k]'(by rw [metK_len]; exact h) = metB p n a m k := by unfold metK; simp
theorem metK_no {p : Ply} {n a m : Nat} (h : bstI p n m = false) : metK p n a (m + 1) = metK p n a m := by
  unfold metK; exact List.map_congr_left fun k _ => by rw [metB_succ, h]; simp
theorem metK_old {p : Ply} {n a m k : Nat} (hk : plcI p n a m = (k : Int)) (h : metB p n a m k = true) : metK p n a (m + 1) = metK p n a m := by
  unfold metK; refine List.map_congr_left fun j _ => ?_
  rw [metB_succ]
  by_cases e : j = k
  · subst e; rw [h]; rfl
  · rw [hk, decide_eq_false (fun q => e (by omega)), Bool.and_false, Bool.or_false]
theorem metK_new {p : Ply} {n a m k : Nat} (hb : bstI p n m = true) (hk : plcI p n a m = (k : Int)) (hl : k < p.hts.length) : metK p n a (m + 1) = (metK p n a m).set k true := by
  refine List.ext_getElem (by simp [metK_len]) fun j h1 h2 => ?_
  rw [metK_len] at h1
  rw [metK_get h1, List.getElem_set, metK_get h1, metB_succ, hb, hk]
  by_cases e : k = j
  · subst e; simp
  · rw [if_neg e, decide_eq_false (fun q => e (by omega))]; simp
theorem mny_set : ∀ {l : List Bool} {k : Nat} (h : k < l.length), l[k] = false → mny (l.set k true) = mny l + 1
  | b :: l, 0, _, h => by simp only [List.getElem_cons_zero] at h; subst h; simp [mny]
  | b :: l, k + 1, hk, h => by
    have ih := mny_set (l := l) (k := k) (by simpa using hk) (by simpa using h)
    unfold mny at ih ⊢
    rw [List.set_cons_succ]
    cases b <;> simp_all
theorem mny_le (l : List Bool) : mny l ≤ l.length := List.length_filter_le _ _
theorem metK_zero (p : Ply) (n a : Nat) : metK p n a 0 = List.replicate p.hts.length false := by
  refine List.ext_getElem (by simp [metK_len]) fun j h1 h2 => ?_
  rw [metK_len] at h1
  rw [metK_get h1]; unfold metB; simp
theorem mny_zero (p : Ply) (n a : Nat) : mny (metK p n a 0) = 0 := by rw [metK_zero]; unfold mny; simp
theorem wrdK_len {l : List Bool} {k : Nat} (h : k ≤ l.length) : (wrdK l k).length = k := by unfold wrdK; simp; omega
theorem wrdK_succ {l : List Bool} {k : Nat} (h : k < l.length) : wrdK l (k + 1) = wrdK l k ++ [if l[k] = false then 1 else if mny l = 1 then 3 else 2] := by
  unfold wrdK; rw [List.take_succ_eq_append_getElem h, List.map_append]; rfl
theorem madeB_zero (n : Nat) : (madeCells #[Value.bool false] (n * 1)).toList = List.replicate n (.bool false) := by
  unfold madeCells
  rw [Nat.mul_one]
  apply List.ext_getElem?
  intro k
  simp only [Array.toList_map, Array.toList_range, List.getElem?_map, List.getElem?_range, List.getElem?_replicate]
  by_cases h : k < n
  · simp [h, Nat.mod_one]
  · simp [h]
theorem mk111 (n : Nat) (hn : n ≤ 1000000) : makeB Tryz.prog 111 n = some (List.replicate n (.bool false)) := by
  obtain ⟨i, h1, h2, h3, h4⟩ : ∃ i : TypeInfo, Tryz.prog.info? 4 = some i ∧ i.zero = some (.bool false) ∧ i.size = 1 ∧ i.bytes = 1 := ⟨_, rfl, rfl, rfl, rfl⟩
  unfold makeB
  rw [Tryz.underlying111]
  simp only [h1, h2, h3, h4]
  have e : (Value.bool false).cells = #[.bool false] := rfl
  rw [e, madeB_zero, if_pos ⟨Nat.ble_eq_true_of_le (by omega), by simp [Value.oneCell']⟩]
abbrev bls (l : List Bool) : List AV := l.map fun b => B b
theorem bls_set {l : List Bool} {q : Nat} (h : q < l.length) : bls (l.set q true) = (bls l).take (0 + q * 1) ++ [B true] ++ (bls l).drop (0 + q * 1 + 1) := by
  show (l.set q true).map (fun b => B b) = _
  rw [List.map_set, Nat.zero_add, Nat.mul_one, List.set_eq_take_append_cons_drop, if_pos (by simpa using h)]; simp
@[simp] theorem inL_bls (n : Nat) (l : List Bool) : AV.inL n (bls l) = true := by
  induction l with
  | nil => rfl
  | cons b l ih => show (AV.inB n (B b) && AV.inL n (bls l)) = true; rw [ih]; rfl
theorem made_bls (p : Ply) (n a : Nat) : (List.replicate p.hts.length (Value.bool false)).map AV.raw = bls (metK p n a 0) := by rw [metK_zero]; simp
theorem xwhere_no {p : Ply} (hh : p.hts.length ≤ 1000000) (hf : p.figs.length ≤ 1000000) (hs : p.scs.length ≤ 1000000) (hx : ∀ x ∈ p.scs, x.moved.length ≤ 1000000 ∧ x.rest.length ≤ 1000000 ∧ x.taken.length ≤ 1000000) {k : Nat} (hk : k < p.scs.length) (h1 : plOK p = true) {g : Int} {i : Nat} (hi : i < (sc p k).rest.length) (h3 : ixQ (fun x => decide (g = x)) (sc p k).rest = (i : Int)) {m : Nat} (h4 : failsAt p = some m) : APure Tryz.prog 25 [plA p, I k, I g] (.tup [ints [], I 7]) := by
  refine ap Tryz.func25 (fun e0 he0 => ?_)
  refine vz 3 ?_
  refine sq_nil ?_
  refine aw_seq ?_
  refine aw_seq ?_
  have hpl := isplay_pure p hh hf hs hx
  rw [h1] at hpl
  have hsc := isscene_pure p (k : Int) hs
  rw [scIn_nat hk] at hsc
  have gP := plOK_B h1
  have gX := sc_B gP hk
  have hr4 := gX.r4
  have esc := sc_at hk
  have hix := index_pure (sc p k).rest g (by omega)
  rw [h3] at hix
  refine wz 1 ?_
  refine kz az (hpl) ?_
  refine wz 4 ?_
  refine ky az (hsc) ?_
  refine wz 6 ?_
  refine sq_ev rfl (ev_less (ev_index_map (k := k) (xs := p.scs) sl24.h jz jz rfl hk) (Less.eq (b := .iptr (scC (sc p k))) (by rw [esc]))) ?_
  refine wz 3 ?_
  refine kz az (hix) ?_
  refine wz 5 ?_
  refine kz az (fails_n gP h4) ?_
  refine sq_ev rfl (ev_mv (v := .tup [.agg [I m, I (lacks p (sc p m))], I 7]) jz) ?_
  refine wz 11 ?_
  exact retQ_pure (v := .tup [.raw (.slice none 0 0), .raw _]) rfl rfl (less_tup ⟨less_nil 1, jz, trivial⟩)
theorem xwhere_ok {p : Ply} (hh : p.hts.length ≤ 1000000) (hf : p.figs.length ≤ 1000000) (hs : p.scs.length ≤ 1000000) (hx : ∀ x ∈ p.scs, x.moved.length ≤ 1000000 ∧ x.rest.length ≤ 1000000 ∧ x.taken.length ≤ 1000000) {k : Nat} (hk : k < p.scs.length) (h1 : plOK p = true) {g : Int} {i : Nat} (hi : i < (sc p k).rest.length) (h3 : ixQ (fun x => decide (g = x)) (sc p k).rest = (i : Int)) (h4 : failsAt p = none) : APure Tryz.prog 25 [plA p, I k, I g] (.tup [ints (whr p k i), I 0]) := by
  refine ap Tryz.func25 (fun e0 he0 => ?_)
  refine vz 3 ?_
  refine sq_nil ?_
  refine aw_seq ?_
  refine aw_seq ?_
  have hpl := isplay_pure p hh hf hs hx
  rw [h1] at hpl
  have hsc := isscene_pure p (k : Int) hs
  rw [scIn_nat hk] at hsc
  have gP := plOK_B h1
  have gX := sc_B gP hk
  have hr4 := gX.r4
  have esc := sc_at hk
  have hix := index_pure (sc p k).rest g (by omega)
  rw [h3] at hix
  have hA := all_arr h4
  have hns := gP.ns
  have hnh := gP.nh
  have hal : (ls p k).length ≤ 1296 := arr_len gP gX true
  have hal0 : (ls p 0).length ≤ 1296 := arr_len gP (sc_B gP (by omega)) true
  have hl0 : 0 < (ls p 0).length := List.length_pos_iff.2 (hA 0 (by omega))
  refine wz 1 ?_
  refine kz az (hpl) ?_
  refine wz 4 ?_
  refine ky az (hsc) ?_
  refine wz 6 ?_
  refine sq_ev rfl (ev_less (ev_index_map (k := k) (xs := p.scs) sl24.h jz jz rfl hk) (Less.eq (b := .iptr (scC (sc p k))) (by rw [esc]))) ?_
  refine wz 3 ?_
  refine kz az (hix) ?_
  refine wz 5 ?_
  refine kz az (fails_y gP h4) ?_
  refine sq_ev rfl (ev_mv (v := .tup [.agg [I 0, I 0], I 0]) jz) ?_
  refine wz 9 ?_
  refine kz az (plan_pure gP hA) ?_
  refine vz 2 ?_
  refine sq_nil ?_
  refine aw_seq ?_
  refine aw_sub (sub_iptrK [1, 2, 3, 8] 11 (j := 2) (l := planC p) rfl rfl) ?_
  refine nz ?_
  refine wz 2 ?_
  refine sq_ev rfl (ev_less (ev_index (k := 0) (c := [ints (lefR p 0)]) sl61.h jz jz rfl (by rw [List.getElem?_map, List.getElem?_range (by omega)]; rfl)) jz) ?_
  refine wz 1 ?_
  refine kz az (smin_pure (lefR p 0) (by rw [List.length_map, List.length_range]; exact hl0) (by rw [List.length_map, List.length_range]; omega)) ?_
  refine wz 4 ?_
  refine sq_make (n := p.hts.length) rfl (mk111 _ (by omega)) (by omega) jz jz ?_
  rw [made_bls p k i]
  refine wz 5 ?_
  refine sq_ev rfl (ev_less (ev_index (k := k) (c := [hds (ls p k)]) sl106.h jz jz rfl (by rw [List.getElem?_map, List.getElem?_range (by omega)]; rfl)) jz) ?_
  refine wz 3 ?_
  refine aw_loopk (ι := { m : Nat // m ≤ (ls p k).length }) [1, 8, 11, 12, 13, 62, 63] (fun g => [(64, I (g.1 : Nat)), (14, I (mny (metK p k i g.1) : Nat))]) (fun H g => H.set 3 (.cells (bls (metK p k i g.1)))) (fun g => (ls p k).length - g.1) (⟨0, Nat.zero_le _⟩) ⟨jz, (by exact less_int (by rw [mny_zero]; rfl)), jz, jz, jz, jz, jz, jz, jz, trivial⟩ rfl ?_
  rintro ⟨m, hm⟩
  refine nz ?_
  have hmy := mny_le (metK p k i m)
  rw [metK_len] at hmy
  refine wz 1 ?_
  refine iz (fun c_65 c_65' => ?_) (fun c_65 c_65' => ?_)
  ·have hml : m < (ls p k).length := by omega
   refine vz 5 ?_
   refine sq_nil ?_
   refine aw_seq ?_
   have hbb := befI_bd gP hA m (i := k) hk
   have hbl := lefI_bd gP hA m (i := k) hk
   have hw := wr (n := befI p k m + lefI p k m) (by omega) (by omega)
   have hml2 := (mem_arr.1 (List.getElem_mem hml)).1
   have hia : i < (ls p k)[m].length := by rw [hml2]; exact hi
   have hpl2 := (mem_arr.1 (List.getElem_mem hml)).2.1 _ (List.getElem_mem hia)
   obtain ⟨q, hq⟩ : ∃ q : Nat, (ls p k)[m][i] = (q : Int) := ⟨((ls p k)[m][i]).toNat, by omega⟩
   have hqh : q < p.hts.length := by omega
   have epl : plcI p k i m = (q : Int) := by unfold plcI; rw [getD_at hml, getD_at hia, hq]
   have hkl2 := metK_len p k i m
   refine aw_draw 29 mo (by kernel_rfl) ?_
   refine dz 3 ?_
   refine dr_ev rfl (ev_less (ev_index (k := k) (c := [ints (befR p k)]) sl61.h jz jz rfl (by rw [List.getElem?_map, List.getElem?_range (by omega)]; rfl)) jz) ?_
   refine dz 2 ?_
   refine dr_ev rfl (ev_index_map (k := m) (xs := befR p k) sl22.h jz jz rfl (by rw [List.length_map, List.length_range]; exact hml)) ?_
   refine dr_ev rfl (ev_load_i (v := I (befI p k m)) jz ty3.h (by simp)) ?_
   refine dz 3 ?_
   refine dr_ev rfl (ev_less (ev_index (k := k) (c := [ints (lefR p k)]) sl61.h jz jz rfl (by rw [List.getElem?_map, List.getElem?_range (by omega)]; rfl)) jz) ?_
   refine dz 2 ?_
   refine dr_ev rfl (ev_index_map (k := m) (xs := lefR p k) sl22.h jz jz rfl (by rw [List.length_map, List.length_range]; exact hml)) ?_
   refine dr_ev rfl (ev_load_i (v := I (lefI p k m)) jz ty3.h (by simp)) ?_
   refine dr_ev rfl (ev_add (q := befI p k m + lefI p k m) jz jz hw) ?_
   refine dz 3 ?_
   refine dsz 88 (fun g16_19 g16_19' => ?_) (fun g16_19 g16_19' => ?_)
   ·refine dz 3 ?_
    refine dr_yes rfl rfl (less_b g16_19) rfl (ev_index_map (k := i) (xs := (ls p k)[m]) sl22.h jz jz rfl hia) ?_
    refine dr_yes rfl rfl (less_b g16_19) rfl (ev_load_i (v := I q) jz ty3.h (by rw [← hq]; rfl)) ?_
    refine dr_yes rfl rfl (less_b g16_19) rfl (ev_index_msl (k := q) sl111.h jz jz rfl hqh) ?_
    refine dr_yes rfl rfl (less_b g16_19) rfl (ev_load (v := B (metB p k i m q)) jz rfl ty4.h (by rw [Nat.zero_add, Nat.mul_one, List.getElem?_map, List.getElem?_eq_getElem (by rw [hkl2]; exact hqh), metK_get hqh]; rfl)) ?_
    refine dz 2 ?_
    refine wz 0 ?_
    refine iz (fun c_97 c_97' => ?_) (fun c_97 c_97' => ?_)
    ·have hst : bstI p k m = true := by unfold bstI fewP; simpa using g16_19
     have hnm : metB p k i m q = false := by simpa using c_97
     have eM0 := metK_new (a := i) hst epl hqh
     have eM : (bls (metK p k i (m + 1))) = ((bls (metK p k i m)).take (0 + q * 1) ++ [B true] ++ (bls (metK p k i m)).drop (0 + q * 1 + 1)) := by rw [eM0]; exact bls_set (by rw [hkl2]; exact hqh)
     have eN : ((mny (metK p k i m) : Nat) : Int) + 1 = (mny (metK p k i (m + 1)) : Nat) := by rw [eM0, mny_set (by rw [hkl2]; exact hqh) (by rw [metK_get hqh]; exact hnm)]; omega
     refine wz 3 ?_
     refine sq_ev rfl (ev_index_map (k := i) (xs := (ls p k)[m]) sl22.h jz jz rfl hia) ?_
     refine sq_ev rfl (ev_load_i (v := I q) jz ty3.h (by rw [← hq]; rfl)) ?_
     refine sq_ev rfl (ev_index_msl (k := q) sl111.h jz jz rfl hqh) ?_
     refine sq_store (j := 3) (off := 0 + q * 1) rfl jz jz rfl rfl ty4.h rfl (Nat.ble_eq_true_of_le (by rw [List.length_map, hkl2]; omega)) ?_
     refine wz 5 ?_
     exact ⟨⟨m + 1, by omega⟩, by simp only; omega, sb 4 ⟨jz, (by exact less_int eN), jz, jz, jz, jz, jz, jz, jz, trivial⟩ (hH := (congrArg (fun L => [_, _, _, AObj.cells L]) eM.symm))⟩
    have eM0 : metK p k i (m + 1) = metK p k i m := metK_old epl (by simpa using c_97)
    have eM : (bls (metK p k i (m + 1))) = (bls (metK p k i m)) := by rw [eM0]
    have eN : ((mny (metK p k i m) : Nat) : Int) = (mny (metK p k i (m + 1)) : Nat) := by rw [eM0]
    refine wz 2 ?_
    exact ⟨⟨m + 1, by omega⟩, by simp only; omega, sb 4 ⟨jz, (by exact less_int eN), jz, jz, jz, jz, jz, jz, jz, trivial⟩ (hH := (congrArg (fun L => [_, _, _, AObj.cells L]) eM.symm))⟩
   have eM0 : metK p k i (m + 1) = metK p k i m := metK_no (by unfold bstI fewP; simpa using g16_19)
   have eM : (bls (metK p k i (m + 1))) = (bls (metK p k i m)) := by rw [eM0]
   have eN : ((mny (metK p k i m) : Nat) : Int) = (mny (metK p k i (m + 1)) : Nat) := by rw [eM0]
   refine dz 9 ?_
   refine wz 3 ?_
   exact ⟨⟨m + 1, by omega⟩, by simp only; omega, sb 4 ⟨jz, (by exact less_int eN), jz, jz, jz, jz, jz, jz, jz, trivial⟩ (hH := (congrArg (fun L => [_, _, _, AObj.cells L]) eM.symm))⟩
  obtain rfl : m = (ls p k).length := by omega
  refine wz 2 ?_
  refine sq_ev rfl (ev_len_msl sl111.h jz) ?_
  refine vz 1 ?_
  refine sq_nil ?_
  refine aw_block ?_
  refine aw_sub (sub_token 17 1 jz) ?_
  refine aw_loopk (ι := { q : Nat // q ≤ p.hts.length }) [14, 107, 108] (fun g => [(109, I (g.1 : Nat)), (17, .own 4 1 ((wrdK (metK p k i (ls p k).length) g.1).map fun x => [I x]))]) (fun H g => H.set 4 (.tok ((wrdK (metK p k i (ls p k).length) g.1).map fun x => [I x]).length)) (fun g => p.hts.length - g.1) (⟨0, Nat.zero_le _⟩) ⟨jz, jz, jz, jz, jz, trivial⟩ rfl ?_
  rintro ⟨q, hq⟩
  refine nz ?_
  have hwl := wrdK_len (l := metK p k i (ls p k).length) (k := q) (by rw [metK_len]; exact hq)
  refine wz 1 ?_
  refine iz (fun c_110 c_110' => ?_) (fun c_110 c_110' => ?_)
  ·have hqh : q < p.hts.length := by omega
   have hqm : q < (metK p k i (ls p k).length).length := by rw [metK_len]; exact hqh
   have hws := wrdK_succ hqm
   rw [metK_get hqh] at hws
   refine wz 0 ?_
   refine sq_ev rfl (ev_index_msl (k := q) sl111.h jz jz rfl hqh) ?_
   refine sq_ev rfl (ev_load (v := B (metB p k i (ls p k).length q)) jz rfl ty4.h (by rw [Nat.zero_add, Nat.mul_one, List.getElem?_map, List.getElem?_eq_getElem (by rw [metK_len]; exact hqh), metK_get hqh]; rfl)) ?_
   refine wz 4 ?_
   refine iz (fun c_116 c_116' => ?_) (fun c_116 c_116' => ?_)
   ·have eS : ((wrdK (metK p k i (ls p k).length) (q + 1)).map fun x => [I x]) = ((wrdK (metK p k i (ls p k).length) q).map fun x => [I x]) ++ [[I 1]] := by rw [hws, List.map_append, if_pos (by simpa using c_116)]; rfl
    refine wz 1 ?_
    refine sq_ev rfl (ev_buildSlice (es := [[_]]) sf35.h rfl rfl rfl rfl) ?_
    first | refine sq_append rfl sf35.h Tryz.underlying35 rfl rfl jz (Nat.succ_pos _) (by simp; omega) (by simp; omega) ?_ | refine sq_append rfl sf35.h Tryz.underlying35 rfl rfl (less_slx _ _) (Nat.succ_pos _) (by simp; omega) (by simp; omega) ?_
    refine wz 3 ?_
    exact ⟨⟨q + 1, by omega⟩, by simp only; omega, sb 5 ⟨jz, Less.eq (by rw [eS] <;> rfl), jz, jz, jz, trivial⟩ (hH := (congrArg (fun m => [_, _, _, _, AObj.tok m]) (congrArg List.length eS.symm)))⟩
   refine wz 3 ?_
   refine iz (fun c_122 c_122' => ?_) (fun c_122 c_122' => ?_)
   ·have eS : ((wrdK (metK p k i (ls p k).length) (q + 1)).map fun x => [I x]) = ((wrdK (metK p k i (ls p k).length) q).map fun x => [I x]) ++ [[I 3]] := by rw [hws, List.map_append, if_neg (by simpa using c_116), if_pos (by omega)]; rfl
    refine wz 1 ?_
    refine sq_ev rfl (ev_buildSlice (es := [[_]]) sf35.h rfl rfl rfl rfl) ?_
    first | refine sq_append rfl sf35.h Tryz.underlying35 rfl rfl jz (Nat.succ_pos _) (by simp; omega) (by simp; omega) ?_ | refine sq_append rfl sf35.h Tryz.underlying35 rfl rfl (less_slx _ _) (Nat.succ_pos _) (by simp; omega) (by simp; omega) ?_
    refine wz 3 ?_
    exact ⟨⟨q + 1, by omega⟩, by simp only; omega, sb 5 ⟨jz, Less.eq (by rw [eS] <;> rfl), jz, jz, jz, trivial⟩ (hH := (congrArg (fun m => [_, _, _, _, AObj.tok m]) (congrArg List.length eS.symm)))⟩
   have eS : ((wrdK (metK p k i (ls p k).length) (q + 1)).map fun x => [I x]) = ((wrdK (metK p k i (ls p k).length) q).map fun x => [I x]) ++ [[I 2]] := by rw [hws, List.map_append, if_neg (by simpa using c_116), if_neg (by omega)]; rfl
   refine wz 1 ?_
   refine sq_ev rfl (ev_buildSlice (es := [[_]]) sf35.h rfl rfl rfl rfl) ?_
   first | refine sq_append rfl sf35.h Tryz.underlying35 rfl rfl jz (Nat.succ_pos _) (by simp; omega) (by simp; omega) ?_ | refine sq_append rfl sf35.h Tryz.underlying35 rfl rfl (less_slx _ _) (Nat.succ_pos _) (by simp; omega) (by simp; omega) ?_
   refine wz 3 ?_
   exact ⟨⟨q + 1, by omega⟩, by simp only; omega, sb 5 ⟨jz, Less.eq (by rw [eS] <;> rfl), jz, jz, jz, trivial⟩ (hH := (congrArg (fun m => [_, _, _, _, AObj.tok m]) (congrArg List.length eS.symm)))⟩
  obtain rfl : q = p.hts.length := by omega
  refine wz 3 ?_
  exact retQ_pure (v := .tup [.own _ _ _, .raw _]) rfl rfl (less_tup ⟨less_own _ _ _, jz, trivial⟩)
end Go.Proofs.YtfmpabgblbbcdaaGreatDoor
