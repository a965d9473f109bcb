/-
  A part of the proof: conditions: none beyond each theorem's own.
-/
import Derived.Test.YtjpokekbjmdgmaaGreatDoorWalkD
import Derived.Test.YtjpokekbjmdgmaaGreatDoorLogicC
import Derived.Test.YtjpokekbjmdgmaaGreatDoorLogicD
import Derived.KernelRfl
import Derived.Lib.LaidTab
import Derived.Lib.ItoaNum
import Derived.Test.YtjpokekbjmdgmaaGreatDoorSpecA
import Derived.Test.YtjpokekbjmdgmaaGreatDoorWalkC
set_option linter.all false
set_option maxRecDepth 100000
set_option maxHeartbeats 8000000
namespace Go.Proofs.YtjpokekbjmdgmaaGreatDoor
open Go Go.Ab Ni Hd
instance en118 : EnT Tryz.prog 118 := ⟨Ent.of Tryz.func118 (by kernel_rfl) rfl⟩
instance en119 : EnT Tryz.prog 119 := ⟨Ent.of Tryz.func119 (by kernel_rfl) rfl⟩
instance en120 : EnT Tryz.prog 120 := ⟨Ent.of Tryz.func120 (by kernel_rfl) rfl⟩
instance en156 : EnT Tryz.prog 156 := ⟨Ent.of Tryz.func156 (by kernel_rfl) rfl⟩
instance en20 : EnT Tryz.prog 20 := ⟨Ent.of Tryz.func20 (by kernel_rfl) rfl⟩
instance en21 : EnT Tryz.prog 21 := ⟨Ent.of Tryz.func21 (by kernel_rfl) rfl⟩
instance en22 : EnT Tryz.prog 22 := ⟨Ent.of Tryz.func22 (by kernel_rfl) rfl⟩
instance en23 : EnT Tryz.prog 23 := ⟨Ent.of Tryz.func23 (by kernel_rfl) rfl⟩
instance en24 : EnT Tryz.prog 24 := ⟨Ent.of Tryz.func24 (by kernel_rfl) rfl⟩
instance en28 : EnT Tryz.prog 28 := ⟨Ent.of Tryz.func28 (by kernel_rfl) rfl⟩
instance en29 : EnT Tryz.prog 29 := ⟨Ent.of Tryz.func29 (by kernel_rfl) rfl⟩
instance en30 : EnT Tryz.prog 30 := ⟨Ent.of Tryz.func30 (by kernel_rfl) rfl⟩
instance en33 : EnT Tryz.prog 33 := ⟨Ent.of Tryz.func33 (by kernel_rfl) rfl⟩
instance en37 : EnT Tryz.prog 37 := ⟨Ent.of Tryz.func37 (by kernel_rfl) rfl⟩
instance en41 : EnT Tryz.prog 41 := ⟨Ent.of Tryz.func41 (by kernel_rfl) rfl⟩
instance en48 : EnT Tryz.prog 48 := ⟨Ent.of Tryz.func48 (by kernel_rfl) rfl⟩
instance en58 : EnT Tryz.prog 58 := ⟨Ent.of Tryz.func58 (by kernel_rfl) rfl⟩
instance en63 : EnT Tryz.prog 63 := ⟨Ent.of Tryz.func63 (by kernel_rfl) rfl⟩
instance en73 : EnT Tryz.prog 73 := ⟨Ent.of Tryz.func73 (by kernel_rfl) rfl⟩
instance en74 : EnT Tryz.prog 74 := ⟨Ent.of Tryz.func74 (by kernel_rfl) rfl⟩
instance en75 : EnT Tryz.prog 75 := ⟨Ent.of Tryz.func75 (by kernel_rfl) rfl⟩
instance en76 : EnT Tryz.prog 76 := ⟨Ent.of Tryz.func76 (by kernel_rfl) rfl⟩
instance en77 : EnT Tryz.prog 77 := ⟨Ent.of Tryz.func77 (by kernel_rfl) rfl⟩
instance sf96 : SlS Tryz.prog 96 5 1 1 := ⟨SlFact.of (by kernel_rfl)⟩
instance sl36 : SlE Tryz.prog 36 25 2 := ⟨by kernel_rfl⟩
instance sl54 : SlE Tryz.prog 54 60 1 := ⟨by kernel_rfl⟩
instance ty60 : TyF Tryz.prog 60 false 1 := ⟨by kernel_rfl⟩
instance ud96 : UnD Tryz.prog 96 (.slice 5) := ⟨Tryz.underlying96⟩
abbrev rR : Rg := ⟨[1, 1, 2], [[100, 200, 100], [100, 210, 100], [110, 220, 100]], 980, 1020, 980, 1020, 1, 1⟩
abbrev sS : Rg := ⟨[1, 1, 2], [[100, 200, 100], [100, 210, 100], [110, 220, 100]], 980, 1020, 980, 1020, 1, 0⟩
theorem same_ext {α : Type} {a b : List α} (hl : a.length = b.length) (h : ∀ i, (h1 : i < a.length) → (h2 : i < b.length) → a[i] = b[i]) : a = b := List.ext_getElem hl h
theorem fieldsOf_st {P : Program} {t : TypeId} {fs : Array Field} (h : P.underlying t = some (.struct fs)) : P.fieldsOf t = fs := by unfold Program.fieldsOf; rw [h]
theorem pairEq25 (a b c d : Int) (w : World) : (Op.equalIn 10000 25 (.agg #[.int .i64 a, .int .i64 b]) (.agg #[.int .i64 c, .int .i64 d])).run Tryz.prog w = .ok (decide (a = c) && decide (b = d)) w := by
  have h3 : Tryz.prog.underlying 3 = some (.int .i64) := Tryz.underlying3
  rw [run_equalIn_struct w 9999 25 _ _ (by rw [fieldsOf_st Tryz.underlying25]; exact Tryz.underlying25) (by kernel_rfl), fieldsOf_st Tryz.underlying25]
  have p0 : ∀ (x y : Int) (w : World), (part 3 #[.int .i64 x, .int .i64 y] 0).run Tryz.prog w = .ok (.int .i64 x) w := fun x y w => by
    simp [part, Tryz.isAgg3]
  have p1 : ∀ (x y : Int) (w : World), (part 3 #[.int .i64 x, .int .i64 y] 1).run Tryz.prog w = .ok (.int .i64 y) w := fun x y w => by
    simp [part, Tryz.isAgg3]
  simp [Op.eqFields, p0, p1, run_equalIn_int _ _ _ _ _ _ _ h3]
  by_cases h1 : a = c <;> by_cases h2 : b = d <;> simp [h1, h2]
section
variable {r : Option Nat} {H : List AObj} {ρ : Operand → AV} {d : Option Tmp} {t : TypeId} {p : String} {af : Array Edge} {g : Option (Nat × Bool)} {x y : Operand} {yt : TypeId} {a b c e : Int}
theorem ev_neq25 (hx : Less (ρ x) (.agg [I a, I b])) (hy : Less (ρ y) (.agg [I c, I e])) : Ev Tryz.prog r ⟨d, .binOp .neq 25 x y yt, t, p, af, g⟩ H ρ (B (!(decide (a = c) && decide (b = e)))) :=
  ev_neq_agg (by kernel_rfl) (pairEq25 a b c e) (Less.trans hx (less_agg_raw (vs := [.int .i64 a, .int .i64 b]) rfl)) (Less.trans hy (less_agg_raw (vs := [.int .i64 c, .int .i64 e]) rfl))
theorem ev_eql25 (hx : Less (ρ x) (.agg [I a, I b])) (hy : Less (ρ y) (.agg [I c, I e])) : Ev Tryz.prog r ⟨d, .binOp .eql 25 x y yt, t, p, af, g⟩ H ρ (B (decide (a = c) && decide (b = e))) :=
  ev_eql_agg (by kernel_rfl) (pairEq25 a b c e) (Less.trans hx (less_agg_raw (vs := [.int .i64 a, .int .i64 b]) rfl)) (Less.trans hy (less_agg_raw (vs := [.int .i64 c, .int .i64 e]) rfl))
end
theorem pairEq30 (a b c d : Int) (w : World) : (Op.equalIn 10000 30 (.agg #[.int .i64 a, .int .i64 b]) (.agg #[.int .i64 c, .int .i64 d])).run Tryz.prog w = .ok (decide (a = c) && decide (b = d)) w := by
  have h3 : Tryz.prog.underlying 3 = some (.int .i64) := Tryz.underlying3
  rw [run_equalIn_struct w 9999 30 _ _ (by rw [fieldsOf_st Tryz.underlying30]; exact Tryz.underlying30) (by kernel_rfl), fieldsOf_st Tryz.underlying30]
  have p0 : ∀ (x y : Int) (w : World), (part 3 #[.int .i64 x, .int .i64 y] 0).run Tryz.prog w = .ok (.int .i64 x) w := fun x y w => by
    simp [part, Tryz.isAgg3]
  have p1 : ∀ (x y : Int) (w : World), (part 3 #[.int .i64 x, .int .i64 y] 1).run Tryz.prog w = .ok (.int .i64 y) w := fun x y w => by
    simp [part, Tryz.isAgg3]
  simp [Op.eqFields, p0, p1, run_equalIn_int _ _ _ _ _ _ _ h3]
  by_cases h1 : a = c <;> by_cases h2 : b = d <;> simp [h1, h2]
section
variable {r : Option Nat} {H : List AObj} {ρ : Operand → AV} {d : Option Tmp} {t : TypeId} {p : String} {af : Array Edge} {g : Option (Nat × Bool)} {x y : Operand} {yt : TypeId} {a b c e : Int}
theorem ev_neq30 (hx : Less (ρ x) (.agg [I a, I b])) (hy : Less (ρ y) (.agg [I c, I e])) : Ev Tryz.prog r ⟨d, .binOp .neq 30 x y yt, t, p, af, g⟩ H ρ (B (!(decide (a = c) && decide (b = e)))) :=
  ev_neq_agg (by kernel_rfl) (pairEq30 a b c e) (Less.trans hx (less_agg_raw (vs := [.int .i64 a, .int .i64 b]) rfl)) (Less.trans hy (less_agg_raw (vs := [.int .i64 c, .int .i64 e]) rfl))
end
theorem qn10 {n : Nat} (h : n ≤ 1000000) : IntKind.i64.wrap ((n : Int).tdiv 10) = ((n / 10 : Nat) : Int) := by rw [qd (by omega) (by omega) (by decide)]; try omega
theorem rn10 {n : Nat} : ((n : Int).tmod 10) = ((n % 10 : Nat) : Int) := by rw [Int.tmod_eq_emod_of_nonneg (by omega)]; try omega
theorem itoa_nat (n : Nat) : Lib.itoa n = Lib.decDigits n := by unfold Lib.itoa; rw [if_neg (by omega)]; rfl
theorem dd_small {n : Nat} (h : n < 10) : Lib.decDigits n = [UInt8.ofNat (48 + n)] := by rw [Lib.decDigits, dif_pos h]
theorem dd_big {n : Nat} (h : ¬ n < 10) : Lib.decDigits n = Lib.decDigits (n / 10) ++ [UInt8.ofNat (48 + n % 10)] := by rw [Lib.decDigits, dif_neg h]
theorem digit_eq (n : Nat) : UInt8.ofNat ((48 + (n : Int)).toNat) = UInt8.ofNat (48 + n) := by congr 1; try omega
theorem itoas_len (l : List Int) (hb : ∀ n ∈ l, 0 ≤ n ∧ n ≤ 1000000) (k : Nat) : (preL ((l.take k).map Lib.itoa)).length ≤ 9 * k := by
  have h := prelen (B := 8) (ws := (l.take k).map Lib.itoa) (fun w hw => by
    obtain ⟨n, hn, rfl⟩ := List.mem_map.1 hw
    exact itoa_len (by have := hb n (List.mem_of_mem_take hn); omega))
  rw [List.length_map, List.length_take] at h
  unfold preL; omega
theorem kspan_pure (a b : Int) : APure Tryz.prog 73 [I a, I b] (.agg [I a, I b]) := by
  refine ap Tryz.func73 (fun e0 he0 => ?_)
  refine wz 5 ?_
  exact retQ_res (vs := [.agg _]) rfl rfl ⟨resVar_cell rfl rfl ty25.h rfl, trivial⟩ jz
theorem kR_pure  : APure Tryz.prog 76 [] (rgA rR) := by
  refine ap Tryz.func76 (fun e0 he0 => ?_) (hr := by simp [AV.pureL, AV.pureB, AV.pureE])
  refine wz 1 ?_
  refine sq_ev rfl (ev_less (ev_buildSlice (es := [[_], [_], [_]]) sf22.h rfl rfl rfl rfl) (less_slx _ _)) ?_
  refine sq_ev rfl (ev_less (ev_buildSlice (es := [[_], [_], [_]]) sf28.h rfl rfl rfl rfl) (less_slx _ _)) ?_
  refine sq_ev rfl (ev_less (ev_buildSlice (es := [[_], [_], [_]]) sf28.h rfl rfl rfl rfl) (less_slx _ _)) ?_
  refine sq_ev rfl (ev_less (ev_buildSlice (es := [[_], [_], [_]]) sf28.h rfl rfl rfl rfl) (less_slx _ _)) ?_
  refine sq_ev rfl (ev_less (ev_buildSlice (es := [[_], [_], [_]]) sf23.h rfl rfl rfl rfl) (less_slx _ _)) ?_
  refine kz az (kspan_pure _ _) ?_
  refine kz az (kspan_pure _ _) ?_
  refine wz 2 ?_
  exact retQ_res (vs := [.agg _]) rfl rfl ⟨resVar_cell rfl rfl ty27.h rfl, trivial⟩ jz
theorem kS_pure  : APure Tryz.prog 77 [] (rgA sS) := by
  refine ap Tryz.func77 (fun e0 he0 => ?_) (hr := by simp [AV.pureL, AV.pureB, AV.pureE])
  refine wz 1 ?_
  refine kz az (kR_pure) ?_
  refine wz 6 ?_
  exact retQ_res (vs := [.agg _]) rfl rfl ⟨resVar_cell rfl rfl ty27.h rfl, trivial⟩ jz
theorem same_pure (a b : List Int) (ha : a.length ≤ 1000000) (hb : b.length ≤ 1000000) : APure Tryz.prog 37 [ints a, ints b] (B (decide (a = b))) := by
  refine ap Tryz.func37 (fun e0 he0 => ?_)
  refine wz 6 ?_
  refine iz (fun c_10 c_10' => ?_) (fun c_10 c_10' => ?_)
  ·refine wz 1 ?_
   exact rz rfl (Less.eq (by rw [decide_eq_false (fun h => by rw [h] at c_10'; exact c_10' rfl)]))
  have hlen : a.length = b.length := by omega
  refine wz 1 ?_
  refine aw_loopk (ι := { k : Nat // k ≤ a.length ∧ ∀ i, (h1 : i < a.length) → (h2 : i < b.length) → i < k → a[i] = b[i] }) [0, 1] (fun g => [(5, I g.1)]) (fun H g => H) (fun g => a.length - g.1) (⟨0, Nat.zero_le _, by omega⟩) ⟨jz, jz, jz, trivial⟩ rfl ?_
  rintro ⟨k, hk, hok⟩
  refine nz ?_
  refine wz 4 ?_
  refine iz (fun c_14 c_14' => ?_) (fun c_14 c_14' => ?_)
  ·have hkL : k < a.length := by omega
   refine wz 0 ?_
   refine aw_draw 9 mo (by kernel_rfl) ?_
   refine dz 9 ?_
   refine wz 0 ?_
   refine iz (fun c_25 c_25' => ?_) (fun c_25 c_25' => ?_)
   ·refine wz 1 ?_
    exact rz rfl (Less.eq (by rw [decide_eq_false (fun h => by subst h; simp at c_25)]))
   refine wz 3 ?_
   exact ⟨⟨k + 1, by omega, fun i h1 h2 h => (by by_cases e : i = k; (subst e; simpa using c_25); exact hok i h1 h2 (by omega))⟩, by simp only; omega, Sub.slots ⟨jz, jz, jz, trivial⟩⟩
  have heq : a = b := same_ext hlen fun i h1 h2 => hok i h1 h2 (by omega)
  refine wz 1 ?_
  exact rz rfl (Less.eq (by rw [decide_eq_true heq]))
theorem sameW_pure (a b : List Int) (ha : a.length ≤ 1000000) (hb : b.length ≤ 1000000) : APure Tryz.prog 41 [ints a, ints b] (B (decide (a = b))) := by
  refine ap Tryz.func41 (fun e0 he0 => ?_)
  refine wz 6 ?_
  refine iz (fun c_10 c_10' => ?_) (fun c_10 c_10' => ?_)
  ·refine wz 1 ?_
   exact rz rfl (Less.eq (by rw [decide_eq_false (fun h => by rw [h] at c_10'; exact c_10' rfl)]))
  have hlen : a.length = b.length := by omega
  refine wz 1 ?_
  refine aw_loopk (ι := { k : Nat // k ≤ a.length ∧ ∀ i, (h1 : i < a.length) → (h2 : i < b.length) → i < k → a[i] = b[i] }) [0, 1] (fun g => [(5, I g.1)]) (fun H g => H) (fun g => a.length - g.1) (⟨0, Nat.zero_le _, by omega⟩) ⟨jz, jz, jz, trivial⟩ rfl ?_
  rintro ⟨k, hk, hok⟩
  refine nz ?_
  refine wz 4 ?_
  refine iz (fun c_14 c_14' => ?_) (fun c_14 c_14' => ?_)
  ·have hkL : k < a.length := by omega
   refine wz 0 ?_
   refine aw_draw 9 mo (by kernel_rfl) ?_
   refine dz 9 ?_
   refine wz 0 ?_
   refine iz (fun c_25 c_25' => ?_) (fun c_25 c_25' => ?_)
   ·refine wz 1 ?_
    exact rz rfl (Less.eq (by rw [decide_eq_false (fun h => by subst h; simp at c_25)]))
   refine wz 3 ?_
   exact ⟨⟨k + 1, by omega, fun i h1 h2 h => (by by_cases e : i = k; (subst e; simpa using c_25); exact hok i h1 h2 (by omega))⟩, by simp only; omega, Sub.slots ⟨jz, jz, jz, trivial⟩⟩
  have heq : a = b := same_ext hlen fun i h1 h2 => hok i h1 h2 (by omega)
  refine wz 1 ?_
  exact rz rfl (Less.eq (by rw [decide_eq_true heq]))
theorem sames_pure (a b : List (Int × Int)) (ha : a.length ≤ 1000000) (hb : b.length ≤ 1000000) : APure Tryz.prog 58 [spans a, spans b] (B (decide (a = b))) := by
  refine ap Tryz.func58 (fun e0 he0 => ?_)
  refine wz 6 ?_
  refine iz (fun c_10 c_10' => ?_) (fun c_10 c_10' => ?_)
  ·refine wz 1 ?_
   exact rz rfl (Less.eq (by rw [decide_eq_false (fun h => by rw [h] at c_10'; exact c_10' rfl)]))
  have hlen : a.length = b.length := by omega
  refine wz 1 ?_
  refine aw_loopk (ι := { k : Nat // k ≤ a.length ∧ ∀ i, (h1 : i < a.length) → (h2 : i < b.length) → i < k → a[i] = b[i] }) [0, 1] (fun g => [(5, I g.1)]) (fun H g => H) (fun g => a.length - g.1) (⟨0, Nat.zero_le _, by omega⟩) ⟨jz, jz, jz, trivial⟩ rfl ?_
  rintro ⟨k, hk, hok⟩
  refine nz ?_
  refine wz 4 ?_
  refine iz (fun c_14 c_14' => ?_) (fun c_14 c_14' => ?_)
  ·have hkL : k < a.length := by omega
   refine wz 0 ?_
   refine aw_draw 9 mo (by kernel_rfl) ?_
   refine dz 8 ?_
   refine dr_ev rfl (ev_neq25 jz jz) ?_
   refine dr_end ?_
   refine wz 0 ?_
   refine iz (fun c_25 c_25' => ?_) (fun c_25 c_25' => ?_)
   ·refine wz 1 ?_
    exact rz rfl (Less.eq (by rw [decide_eq_false (fun h => by subst h; simp at c_25)]))
   refine wz 3 ?_
   exact ⟨⟨k + 1, by omega, fun i h1 h2 h => (by by_cases e : i = k; (subst e; exact Prod.ext (by simp at c_25; exact c_25.1) (by simp at c_25; exact c_25.2)); exact hok i h1 h2 (by omega))⟩, by simp only; omega, Sub.slots ⟨jz, jz, jz, trivial⟩⟩
  have heq : a = b := same_ext hlen fun i h1 h2 => hok i h1 h2 (by omega)
  refine wz 1 ?_
  exact rz rfl (Less.eq (by rw [decide_eq_true heq]))
theorem rdec_pure (n : Nat) : n ≤ 1000000 → APure Tryz.prog 156 [I n] (S (Lib.decDigits n)) := by
  induction n using Nat.strongRecOn with
  | _ n ih =>
  intro hn
  refine ap Tryz.func156 (fun e0 he0 => ?_)
  refine wz 4 ?_
  refine sz 5 (fun g1 g1' => ?_) (fun g1 g1' => ?_)
  ·refine wz 3 ?_
   refine iz (fun c2 c2' => ?_) (fun c2 c2' => ?_)
   ·exfalso; omega
   refine wz 2 ?_
   refine iz (fun c3 c3' => ?_) (fun c3 c3' => ?_)
   ·exfalso; omega
   refine wz 2 ?_
   refine iz (fun c4 c4' => ?_) (fun c4 c4' => ?_)
   ·refine wz 3 ?_
    refine sq_ev rfl (ev_buildSlice (es := [[_]]) sf96.h rfl rfl rfl rfl) ?_
    refine wz 2 ?_
    exact rz rfl (Less.eq (by rw [dd_small (n := n) (by omega)]; simp only [List.map_cons, List.map_nil, digit_eq]))
   refine wz 0 ?_
   refine aw_draw 11 mo (by kernel_rfl) ?_
   refine dz 1 ?_
   refine dr_ev rfl (ev_quo (q := ((n / 10 : Nat) : Int)) jz jz (by decide) (qn10 hn)) ?_
   refine dkz az (ih (n / 10) (by omega) (by omega)) ?_
   refine dz 1 ?_
   refine dr_ev rfl (ev_less (ev_rem jz jz (by decide)) (less_int (by exact rn10))) ?_
   refine dz 2 ?_
   refine dr_ev rfl (ev_buildSlice (es := [[_]]) sf96.h rfl rfl rfl rfl) ?_
   refine dz 1 ?_
   refine dr_ev rfl (ev_catS jz jz (by have := decDigits_len 6 (n / 10) (by omega); simp; omega)) ?_
   refine dz 1 ?_
   refine wz 0 ?_
   exact rz rfl (Less.eq (by rw [dd_big (n := n) (by omega)]; simp only [List.map_cons, List.map_nil, digit_eq]))
  exfalso; omega
theorem rdecimal_pure (n : Int) (h : 0 ≤ n ∧ n ≤ 1000000) : APure Tryz.prog 156 [I n] (S (Lib.itoa n)) := by
  obtain ⟨m, rfl⟩ : ∃ m : Nat, n = m := ⟨n.toNat, by omega⟩
  rw [itoa_nat]
  exact rdec_pure m (by omega)
theorem rrow_pure (w : List UInt8) (l : List Int) (hw : w.length ≤ 1000) (hl : l.length ≤ 1000) (hb : ∀ n ∈ l, 0 ≤ n ∧ n ≤ 1000000) : APure Tryz.prog 119 [S w, ints l] (S (w ++ preL (l.map Lib.itoa))) := by
  refine ap Tryz.func119 (fun e0 he0 => ?_)
  refine wz 2 ?_
  refine aw_loopk (ι := { k : Nat // k ≤ l.length }) [1] (fun i => [(5, I i.1), (0, S (w ++ preL ((l.take i.1).map Lib.itoa)))]) (fun H i => H) (fun i => l.length - i.1) (⟨0, Nat.zero_le _⟩) ⟨jz, Less.eq (by show S w = _; simp [preL]), jz, trivial⟩ rfl ?_
  rintro ⟨k, hk⟩
  refine nz ?_
  have hnl := itoas_len l hb k
  refine wz 4 ?_
  refine iz (fun c_9 c_9' => ?_) (fun c_9 c_9' => ?_)
  ·have hk' : k < l.length := by omega
   have hv := hb _ (List.getElem_mem hk')
   have eL : S (w ++ preL ((l.take k).map Lib.itoa) ++ [32] ++ Lib.itoa l[k]) = S (w ++ preL ((l.take (k + 1)).map Lib.itoa)) := by rw [List.take_succ_eq_append_getElem hk', List.map_append]; simp [preL]
   refine wz 1 ?_
   refine sq_ev rfl (ev_catS jz jz (by simp only [List.length_append, List.length_cons, List.length_nil]; omega)) ?_
   refine wz 4 ?_
   refine kz az (rdecimal_pure _ hv) ?_
   refine sq_ev rfl (ev_catS jz jz (by have := itoa_len (n := l[k]) (by omega); simp only [List.length_append, List.length_cons, List.length_nil]; omega)) ?_
   refine wz 4 ?_
   exact ⟨⟨k + 1, by omega⟩, by simp only; omega, Sub.slots ⟨jz, Less.eq eL, jz, trivial⟩⟩
  obtain rfl : k = l.length := by omega
  refine wz 2 ?_
  exact rz rfl (Less.eq (by simp))
theorem rsealed_pure (ls : List (List UInt8)) (hl : ls.length ≤ 1500) (hb : ∀ l ∈ ls, l.length ≤ 1000) : APure Tryz.prog 120 [strs ls, I 199] (S (sealR ls)) := by
  refine ap Tryz.func120 (fun e0 he0 => ?_)
  refine wz 4 ?_
  refine aw_loopk (ι := { i : Nat // i ≤ ls.length }) [0, 1] (fun i => [(7, I i.1), (5, S (outT ls i.1)), (6, I (ctT ls i.1))]) (fun H i => H) (fun i => ls.length - i.1) (⟨0, Nat.zero_le _⟩) ⟨jz, jz, jz, jz, jz, trivial⟩ rfl ?_
  rintro ⟨i, hi⟩
  refine nz ?_
  have hol := outT_len hb i (by omega)
  have hct := ctT_bd (by omega) hb i (by omega)
  refine wz 4 ?_
  refine iz (fun c_12 c_12' => ?_) (fun c_12 c_12' => ?_)
  ·have hi3 : i < ls.length := by omega
   have hll := hb _ (List.getElem_mem hi3)
   refine wz 1 ?_
   refine aw_loopk (ι := { k : Nat // k ≤ ls[i].length }) [0, 1, 5, 7] (fun k => [(8, I k.1), (6, I (ctT ls i + csT ((i : Int) + 1) ls[i] k.1))]) (fun H k => H) (fun k => ls[i].length - k.1) (⟨0, Nat.zero_le _⟩) ⟨jz, (by exact less_int (by simp [csT])), jz, jz, jz, jz, trivial⟩ rfl ?_
   rintro ⟨k, hk⟩
   refine nz ?_
   have hcs := csT_bd (m := (i : Int) + 1) ⟨by omega, by omega⟩ ls[i] k hk hll
   refine wz 7 ?_
   refine iz (fun c_21 c_21' => ?_) (fun c_21 c_21' => ?_)
   ·have hk' : k < ls[i].length := by omega
    have htb := term_bd (b := ls[i][k]) (j := k) (m := (i : Int) + 1) (by omega) ⟨by omega, by omega⟩
    have hb8 : (ls[i][k]).toNat < 256 := UInt8.toNat_lt _
    have eK : ctT ls i + csT ((i : Int) + 1) ls[i] k + (ls[i][k].toNat : Int) * ((k : Int) + 1) * ((i : Int) + 1) = ctT ls i + csT ((i : Int) + 1) ls[i] (k + 1) := by rw [csT_succ _ hk']; omega
    refine wz 10 ?_
    refine sq_ev rfl (ev_mul jz jz (wr (by omega) (by omega))) ?_
    refine wz 2 ?_
    refine sq_ev rfl (ev_mul jz jz (wr (by omega) (by omega))) ?_
    refine wz 5 ?_
    exact ⟨⟨k + 1, by omega⟩, by simp only; omega, Sub.slots ⟨jz, (by exact less_int eK), jz, jz, jz, jz, trivial⟩⟩
   obtain rfl : k = ls[i].length := by omega
   have eO : S (outT ls i ++ ls[i] ++ [10]) = S (outT ls (i + 1)) := by rw [outT_succ hi3]; simp
   have eC : ctT ls i + csT ((i : Int) + 1) ls[i] ls[i].length = ctT ls (i + 1) := by rw [ctT_succ hi3]; rfl
   refine wz 5 ?_
   refine sq_ev rfl (ev_catS jz jz (by omega)) ?_
   refine wz 5 ?_
   exact ⟨⟨i + 1, by omega⟩, by simp only; omega, Sub.slots ⟨jz, Less.eq eO, (by exact less_int eC), jz, jz, trivial⟩⟩
  obtain rfl : i = ls.length := by omega
  refine wz 2 ?_
  refine sq_ev rfl (ev_less (ev_rem jz jz (by decide)) (less_int (Int.tmod_eq_emod_of_nonneg (by omega)))) ?_
  refine vz 1 ?_
  refine sq_nil ?_
  refine aw_seq ?_
  have i1 := itoa_len (n := ctT ls ls.length % 199 / 100) ⟨by omega, by omega⟩
  have i2 := itoa_len (n := ctT ls ls.length % 199 / 10 % 10) ⟨by omega, by omega⟩
  have i3 := itoa_len (n := ctT ls ls.length % 199 % 10) ⟨by omega, by omega⟩
  refine wz 3 ?_
  refine sq_ev rfl (ev_quo (q := ctT ls ls.length % 199 / 100) jz jz (by decide) (qd (by omega) (by omega) (by decide))) ?_
  refine kz az (rdecimal_pure _ (by omega)) ?_
  refine wz 2 ?_
  refine sq_ev rfl (ev_quo (q := ctT ls ls.length % 199 / 10) jz jz (by decide) (qd (by omega) (by omega) (by decide))) ?_
  refine sq_ev rfl (ev_less (ev_rem jz jz (by decide)) (less_int (Int.tmod_eq_emod_of_nonneg (by omega)))) ?_
  refine kz az (rdecimal_pure _ (by omega)) ?_
  refine wz 2 ?_
  refine sq_ev rfl (ev_less (ev_rem jz jz (by decide)) (less_int (Int.tmod_eq_emod_of_nonneg (by omega)))) ?_
  refine kz az (rdecimal_pure _ (by omega)) ?_
  refine wz 3 ?_
  exact rz rfl (Less.eq (by simp [sealR, digs3]))
theorem rkind_pure (k : Int) : APure Tryz.prog 118 [I k] (S (kdW k)) := by
  refine ap Tryz.func118 (fun e0 he0 => ?_)
  refine wz 3 ?_
  refine iz (fun c_4 c_4' => ?_) (fun c_4 c_4' => ?_)
  ·refine wz 1 ?_
   exact rz rfl (Less.eq (by unfold kdW; first | (rw [if_pos (by omega)]; rfl) | (rw [if_neg (by omega)]; rfl)))
  refine wz 1 ?_
  exact rz rfl (Less.eq (by unfold kdW; first | (rw [if_pos (by omega)]; rfl) | (rw [if_neg (by omega)]; rfl)))
theorem rprint_pure {r : Rg} (sm : SmR r) (nn : ∀ n ∈ l6 r, 0 ≤ n) (nh : ∀ h ∈ r.hides, ∀ n ∈ h, 0 ≤ n) : APure Tryz.prog 63 [rgA r] (S (textR r)) := by
  refine ap Tryz.func63 (fun e0 he0 => ?_)
  refine wz 4 ?_
  refine aw_loopk (ι := { k : Nat // k ≤ r.kinds.length }) [1] (fun k => [(4, I k.1), (3, S (wMea ++ preL ((r.kinds.take k.1).map kdW)))]) (fun H k => H) (fun k => r.kinds.length - k.1) (⟨0, Nat.zero_le _⟩) ⟨jz, Less.eq (by simp [preL] <;> rfl), jz, trivial⟩ rfl ?_
  rintro ⟨k, hk⟩
  refine nz ?_
  have hnk := sm.nk
  have hpl : (preL ((r.kinds.take k).map kdW)).length ≤ 7000 := by have h := prelen (B := 6) (ws := (r.kinds.take k).map kdW) (fun w hw => by obtain ⟨n, _, rfl⟩ := List.mem_map.1 hw; unfold kdW; split <;> decide); rw [List.length_map, List.length_take] at h; unfold preL; omega
  refine wz 5 ?_
  refine iz (fun c_11 c_11' => ?_) (fun c_11 c_11' => ?_)
  ·have hkL : k < r.kinds.length := by omega
   have eL : S (wMea ++ preL ((r.kinds.take k).map kdW) ++ [32] ++ kdW r.kinds[k]) = S (wMea ++ preL ((r.kinds.take (k + 1)).map kdW)) := by rw [List.take_succ_eq_append_getElem hkL, List.map_append]; simp [preL]
   refine wz 1 ?_
   refine sq_ev rfl (ev_catS jz jz (by have : wMea.length = 8 := rfl; simp only [List.length_append, List.length_cons, List.length_nil]; omega)) ?_
   refine wz 5 ?_
   refine kz az (rkind_pure _) ?_
   refine sq_ev rfl (ev_catS jz jz (by have : wMea.length = 8 := rfl; have h9 : (kdW r.kinds[k]).length ≤ 6 := (by unfold kdW; split <;> decide); simp only [List.length_append, List.length_cons, List.length_nil]; omega)) ?_
   refine wz 4 ?_
   exact ⟨⟨k + 1, by omega⟩, by simp only; omega, Sub.slots ⟨jz, Less.eq eL, jz, trivial⟩⟩
  obtain rfl : k = r.kinds.length := by omega
  refine wz 16 ?_
  refine sq_ev rfl (ev_buildSlice (es := [[_], [_], [_], [_], [_], [_]]) sf28.h rfl rfl rfl rfl) ?_
  refine sq_ev rfl (ev_call en119.h jz (rrow_pure wReg (l6 r) (by decide) (by show 6 ≤ 1000; decide) (fun n h => ⟨nn n h, (sm.head n h).2⟩)) ⟨jz, l6_sl r, trivial⟩) ?_
  refine wz 1 ?_
  refine sq_ev rfl (ev_less (ev_buildSlice (es := [[_], [_]]) sf164.h rfl rfl rfl rfl) (Less.eq (b := .slx 1 [[S (lnReg r)], [S (lnMea r)]]) (by unfold lnReg lnMea wordsOf; rw [join_eq, join_eq, List.take_length]))) ?_
  refine vz 2 ?_
  refine sq_nil ?_
  refine aw_block ?_
  refine aw_sub (sub_token_slx 5 1 jz) ?_
  refine aw_loopk (ι := { k : Nat // k ≤ r.hides.length }) [1] (fun i => [(6, I i.1), (5, .own 1 1 (((lnReg r :: lnMea r :: (r.hides.take i.1).map lnHid)).map fun x => [S x]))]) (fun H i => H.set 1 (.tok (((lnReg r :: lnMea r :: (r.hides.take i.1).map lnHid)).map fun x => [S x]).length)) (fun i => r.hides.length - i.1) (⟨0, Nat.zero_le _⟩) ⟨jz, jz, jz, trivial⟩ rfl ?_
  rintro ⟨i, hi⟩
  refine nz ?_
  have hsl := sm.len
  refine wz 5 ?_
  refine iz (fun c_47 c_47' => ?_) (fun c_47 c_47' => ?_)
  ·have hiL : i < r.hides.length := by omega
   have eS : ((lnReg r :: lnMea r :: (r.hides.take (i + 1)).map lnHid)).map (fun x => [S x]) = ((lnReg r :: lnMea r :: (r.hides.take i).map lnHid)).map (fun x => [S x]) ++ [[S (wHid ++ preL (r.hides[i].map Lib.itoa))]] := by rw [List.take_succ_eq_append_getElem hiL, List.map_append]; simp only [List.map_append, List.map_cons, List.map_nil, List.cons_append]; rw [show lnHid r.hides[i] = wHid ++ preL (r.hides[i].map Lib.itoa) from join_eq _ _]
   refine wz 6 ?_
   refine kz az (rrow_pure wHid r.hides[i] (by decide) (sm.hides _ (List.getElem_mem hiL)).1 (fun n h => ⟨nh _ (List.getElem_mem hiL) n h, ((sm.hides _ (List.getElem_mem hiL)).2 n h).2⟩)) ?_
   refine sq_ev rfl (ev_buildSlice (es := [[_]]) sf164.h rfl rfl rfl rfl) ?_
   first | refine sq_append rfl sf164.h Tryz.underlying164 rfl rfl jz (Nat.succ_pos _) (by simp; omega) (by simp; omega) ?_ | refine sq_append rfl sf164.h Tryz.underlying164 rfl rfl (less_slx _ _) (Nat.succ_pos _) (by simp; omega) (by simp; omega) ?_
   refine wz 4 ?_
   exact ⟨⟨i + 1, by omega⟩, by simp only; omega, sb 2 ⟨jz, Less.eq (by rw [eS] <;> rfl), jz, trivial⟩ (hH := (congrArg (fun n => [_, AObj.tok n]) (congrArg List.length eS.symm)))⟩
  obtain rfl : i = r.hides.length := by omega
  refine wz 1 ?_
  refine sq_ev rfl (ev_call en120.h jz (rsealed_pure (linesR r) (by simp [linesR]; have := sm.len; omega) sm.line) ⟨Less.trans (less_own _ _ _) (Less.eq (by rw [List.take_length]; rfl)), jz, trivial⟩) ?_
  refine wz 1 ?_
  exact rz rfl (Less.eq (by rfl))
end Go.Proofs.YtjpokekbjmdgmaaGreatDoor
namespace Go.Proofs.YtjpokekbjmdgmaaGreatDoor
open Go Go.Ab Ni Hd
instance en25 : EnT Tryz.prog 25 := ⟨Ent.of Tryz.func25 (by kernel_rfl) rfl⟩
instance en26 : EnT Tryz.prog 26 := ⟨Ent.of Tryz.func26 (by kernel_rfl) rfl⟩
instance en27 : EnT Tryz.prog 27 := ⟨Ent.of Tryz.func27 (by kernel_rfl) rfl⟩
instance en31 : EnT Tryz.prog 31 := ⟨Ent.of Tryz.func31 (by kernel_rfl) rfl⟩
instance en32 : EnT Tryz.prog 32 := ⟨Ent.of Tryz.func32 (by kernel_rfl) rfl⟩
instance en39 : EnT Tryz.prog 39 := ⟨Ent.of Tryz.func39 (by kernel_rfl) rfl⟩
instance en43 : EnT Tryz.prog 43 := ⟨Ent.of Tryz.func43 (by kernel_rfl) rfl⟩
instance en44 : EnT Tryz.prog 44 := ⟨Ent.of Tryz.func44 (by kernel_rfl) rfl⟩
instance en45 : EnT Tryz.prog 45 := ⟨Ent.of Tryz.func45 (by kernel_rfl) rfl⟩
instance en50 : EnT Tryz.prog 50 := ⟨Ent.of Tryz.func50 (by kernel_rfl) rfl⟩
instance en52 : EnT Tryz.prog 52 := ⟨Ent.of Tryz.func52 (by kernel_rfl) rfl⟩
instance en62 : EnT Tryz.prog 62 := ⟨Ent.of Tryz.func62 (by kernel_rfl) rfl⟩
instance en66 : EnT Tryz.prog 66 := ⟨Ent.of Tryz.func66 (by kernel_rfl) rfl⟩
instance en68 : EnT Tryz.prog 68 := ⟨Ent.of Tryz.func68 (by kernel_rfl) rfl⟩
theorem k26 : APure Tryz.prog 26 [rgA rR, I 0, .agg [I 980, I 1020]] (.tup [spans [(97, 99), (195, 197), (101, 103)], I 0]) := by
  have h := warped_ok (r := xR) (h := 0) (x := ⟨980, 1020⟩) (by decide) (by decide) (by decide) e_warp.1
  rw [e_warp.2] at h; exact h
theorem k27 : APure Tryz.prog 27 [rgA rR, I 1, ints f1, .agg [I 1000, I 1000]] (.tup [ints [1], I 0]) := by
  have h := changes_ok (r := xR) (h := 1) (f := f1) (x := ⟨1000, 1000⟩) (by decide) (by decide) (by decide) (by decide) e_chg.1
  rw [e_chg.2] at h; exact h
theorem k31 : APure Tryz.prog 31 [rgA rR, I 2, ints f1] (.tup [I 2, I 0]) := by
  have h := fewest_ok (r := xR) (h := 2) (f := f1) (by decide) (by decide) (by decide) (by decide) e_f0.2.2
  rw [e_few] at h; exact h
theorem k32 : APure Tryz.prog 32 [rgA rR, I 1, ints f1] (.tup [ints [1], .agg [I 990, I 990], I 0]) := by
  have h := named_ok (r := xR) (h := 1) (f := f1) (by decide) (by decide) (by decide) (by decide) e_f0.2.1 e_may.2
  rw [e_named.1, e_named.2] at h; exact h
theorem k39 : APure Tryz.prog 39 [rgA rR, ints f1] (.tup [ints [2, 2, 1], I 0]) := by
  have h := who_ok (r := xR) (f := f1) (by decide) (by decide) (by decide) (by decide) (by decide +kernel) (by rw [e_mays]; decide)
  rw [e_who] at h; exact h
theorem k43 : APure Tryz.prog 43 [rgA rR, I 0, ints f1] (.tup [.agg [I 990, I 1010], .agg [I 980, I 1020], I 0]) := by
  have h := rates_ok (r := xR) (h := 0) (f := f1) (by decide) (by decide) (by decide) (by decide) e_f0.1 e_may.1
  rw [e_rates] at h; exact h
theorem k44 : APure Tryz.prog 44 [rgA rR, I 1, ints f1] (.tup [ints [1, 3, 1], I 0]) := by
  have h := joints_ok (r := xR) (h := 1) (f := f1) (by decide) (by decide) (by decide) (by decide) e_f0.2.1 e_may.2
  rw [e_joints] at h; exact h
theorem k45 : APure Tryz.prog 45 [rgA rR, I 0, ints f1, I 1] (.tup [.agg [I 197, I 203], I 0]) := by
  have h := expected_ok (r := xR) (h := 0) (f := f1) (by decide) (by decide) (by decide) (by decide) e_f0.1 e_may.1 (m := 1) (by decide)
  rw [e_exp] at h; exact h
theorem k52 : APure Tryz.prog 52 [rgA rR, ints f2] (.tup [I 2, I 2, I 0]) := by
  have h := next_ok (r := xR) (f := f2) (by decide) (by decide) (by decide) (by decide) (by decide +kernel) (by rw [e_next0.1]; decide) e_next.2
  rw [e_next.1] at h; exact h
theorem k66 : APure Tryz.prog 66 [rgA rR] (.tup [I 0, I 1, I 0]) := by
  obtain ⟨h1, h2⟩ := twA_some e_twins
  have h := ttwins_ok (r := xR) (by decide) (by decide) (by decide) e_ok h2
  have h1' : twA xR (every xR.kinds.length) = (0, 1) := h1
  rw [h1'] at h; exact h
theorem k68 : APure Tryz.prog 68 [rgA sS] (.tup [ints [0, 1], I 0]) := plan_ok (r := xS) (by decide) (by decide) (by decide) e_okS e_plan
theorem k50 : APure Tryz.prog 50 [rgA rR, I 0, ints f1, I 5, I 2] (.tup [.agg [I 0, I 8], I 0]) := by
  have h := dries_ok (r := xR) (h := 0) (f := f1) (by decide) (by decide) (by decide) (by decide) e_f0.1 e_may.1 (near := 5) (step := 2) (by decide)
  rw [e_dries] at h; exact h
theorem k62 : APure Tryz.prog 62 [S text0] (.tup [rgA r0, I 0]) := by
  have h := read_pure text0
  rw [readAV, readE_ok (by decide) e_parse e_ok0] at h; exact h
theorem k63 : APure Tryz.prog 63 [rgA r0] (S text0) := by
  have h := rprint_pure (sm_ok e_ok0) (by decide) (by decide)
  rw [e_text] at h; exact h
theorem same_t {l m : List Int} (hl : l.length ≤ 1000000) (hm : m.length ≤ 1000000) (h : l = m) : APure Tryz.prog 37 [ints l, ints m] (B true) := by have q := same_pure l m hl hm; rw [decide_eq_true h] at q; exact q
theorem sameW_t {l m : List Int} (hl : l.length ≤ 1000000) (hm : m.length ≤ 1000000) (h : l = m) : APure Tryz.prog 41 [ints l, ints m] (B true) := by have q := sameW_pure l m hl hm; rw [decide_eq_true h] at q; exact q
theorem sames_t {l m : List (Int × Int)} (hl : l.length ≤ 1000000) (hm : m.length ≤ 1000000) (h : l = m) : APure Tryz.prog 58 [spans l, spans m] (B true) := by have q := sames_pure l m hl hm; rw [decide_eq_true h] at q; exact q
theorem known_pure  : APure Tryz.prog 25 [] (B true) := by
  refine ap Tryz.func25 (fun e0 he0 => ?_)
  refine wz 1 ?_
  refine sq_ev rfl (ev_less (ev_buildSlice (es := [[_], [_], [_]]) sf28.h rfl rfl rfl rfl) (less_slx _ _)) ?_
  refine sq_ev rfl (ev_less (ev_buildSlice (es := [[_], [_], [_]]) sf28.h rfl rfl rfl rfl) (less_slx _ _)) ?_
  refine wz 2 ?_
  refine kz az (kR_pure) ?_
  refine wz 1 ?_
  refine sq_ev rfl (ev_call en26.h jz (k26) ⟨jz, jz, jz, trivial⟩) ?_
  refine wz 5 ?_
  refine kz az (kR_pure) ?_
  refine wz 2 ?_
  refine kz az (k27) ?_
  refine wz 5 ?_
  refine kz az (kR_pure) ?_
  refine wz 1 ?_
  refine kz az (k31) ?_
  refine wz 5 ?_
  refine kz az (kR_pure) ?_
  refine wz 1 ?_
  refine kz az (k32) ?_
  refine wz 8 ?_
  refine kz az (kR_pure) ?_
  refine wz 1 ?_
  refine kz az (k39) ?_
  refine wz 5 ?_
  refine kz az (kR_pure) ?_
  refine wz 1 ?_
  refine kz az (k43) ?_
  refine wz 9 ?_
  refine kz az (kR_pure) ?_
  refine wz 1 ?_
  refine kz az (k44) ?_
  refine wz 5 ?_
  refine kz az (kR_pure) ?_
  refine wz 1 ?_
  refine kz az (k45) ?_
  refine wz 6 ?_
  refine kz az (kR_pure) ?_
  refine wz 1 ?_
  refine kz az (k52) ?_
  refine wz 7 ?_
  refine kz az (kR_pure) ?_
  refine kz az (k66) ?_
  refine wz 7 ?_
  refine kz az (kS_pure) ?_
  refine kz az (k68) ?_
  refine wz 5 ?_
  refine kz az (kR_pure) ?_
  refine wz 1 ?_
  refine kz az (k50) ?_
  refine wz 6 ?_
  refine kz az (k62) ?_
  refine wz 57 ?_
  refine aw_draw 43 mo (by kernel_rfl) ?_
  refine dz 1 ?_
  refine dkz az (kspan_pure _ _) ?_
  refine dkz az (kspan_pure _ _) ?_
  refine dkz az (kspan_pure _ _) ?_
  refine dr_ev rfl (ev_buildSlice (es := [[_, _], [_, _], [_, _]]) sf36.h rfl rfl rfl rfl) ?_
  refine dr_ev rfl (ev_call en58.h jz (sames_t (l := [(97, 99), (195, 197), (101, 103)]) (m := [(97, 99), (195, 197), (101, 103)]) (by decide) (by decide) rfl) ⟨jz, less_slx _ _, trivial⟩) ?_
  refine dz 3 ?_
  refine dr_yes rfl rfl jz rfl (ev_buildSlice (es := [[_]]) sf28.h rfl rfl rfl rfl) ?_
  refine dr_yes rfl rfl jz rfl (ev_call en37.h jz (same_t (l := [1]) (m := [1]) (by decide) (by decide) rfl) ⟨jz, less_slx _ _, trivial⟩) ?_
  refine dz 8 ?_
  refine dr_yes rfl rfl jz rfl (ev_buildSlice (es := [[_]]) sf28.h rfl rfl rfl rfl) ?_
  refine dr_yes rfl rfl jz rfl (ev_call en37.h jz (same_t (l := [1]) (m := [1]) (by decide) (by decide) rfl) ⟨jz, less_slx _ _, trivial⟩) ?_
  refine dz 5 ?_
  refine dr_yes rfl rfl jz rfl (ev_less (ev_neq30 (a := 990) (b := 990) (c := 990) (e := 990) jz jz) (Less.eq (b := B false) (congrArg B (by decide)))) ?_
  refine dz 3 ?_
  refine dky az (kspan_pure _ _) ?_
  refine dr_yes rfl rfl jz rfl (ev_less (ev_neq25 (a := 990) (b := 1010) (c := 990) (e := 1010) jz jz) (Less.eq (b := B false) (congrArg B (by decide)))) ?_
  refine dz 3 ?_
  refine dky az (kspan_pure _ _) ?_
  refine dr_yes rfl rfl jz rfl (ev_less (ev_neq25 (a := 980) (b := 1020) (c := 980) (e := 1020) jz jz) (Less.eq (b := B false) (congrArg B (by decide)))) ?_
  refine dz 3 ?_
  refine dky az (kspan_pure _ _) ?_
  refine dr_yes rfl rfl jz rfl (ev_less (ev_neq25 (a := 197) (b := 203) (c := 197) (e := 203) jz jz) (Less.eq (b := B false) (congrArg B (by decide)))) ?_
  refine dz 1 ?_
  refine wz 3 ?_
  refine aw_draw 45 mo (by kernel_rfl) ?_
  refine dz 4 ?_
  refine dr_ev rfl (ev_buildSlice (es := [[_], [_], [_]]) sf54.h rfl rfl rfl rfl) ?_
  refine dr_ev rfl (ev_call en41.h jz (sameW_t (l := [2, 2, 1]) (m := [2, 2, 1]) (by decide) (by decide) rfl) ⟨jz, less_slx _ _, trivial⟩) ?_
  refine dz 4 ?_
  refine dr_yes rfl rfl jz rfl (ev_buildSlice (es := [[_], [_], [_]]) sf54.h rfl rfl rfl rfl) ?_
  refine dr_yes rfl rfl jz rfl (ev_call en41.h jz (sameW_t (l := [1, 3, 1]) (m := [1, 3, 1]) (by decide) (by decide) rfl) ⟨jz, less_slx _ _, trivial⟩) ?_
  refine dz 19 ?_
  refine dr_yes rfl rfl jz rfl (ev_buildSlice (es := [[_], [_]]) sf28.h rfl rfl rfl rfl) ?_
  refine dr_yes rfl rfl jz rfl (ev_call en37.h jz (same_t (l := [0, 1]) (m := [0, 1]) (by decide) (by decide) rfl) ⟨jz, less_slx _ _, trivial⟩) ?_
  refine dz 3 ?_
  refine dky az (kspan_pure _ _) ?_
  refine dr_yes rfl rfl jz rfl (ev_less (ev_eql25 (a := 0) (b := 8) (c := 0) (e := 8) jz jz) (Less.eq (b := B true) (congrArg B (by decide)))) ?_
  refine dz 3 ?_
  refine dky az (k63) ?_
  refine dr_yes rfl rfl jz rfl (ev_less (ev_seqS (a := text0) (b := text0) jz jz) (Less.eq (b := B true) (by rw [decide_eq_true rfl]))) ?_
  refine dz 2 ?_
  refine wz 0 ?_
  exact rz rfl jz
end Go.Proofs.YtjpokekbjmdgmaaGreatDoor
