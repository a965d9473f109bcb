/-
  What the rows ask: arguments, tables, a witness. Conditions: none.
-/
import Derived.Test.YtjghdbdiejaacaaGreatDoorCards
import Derived.Test.YtjghdbdiejaacaaGreatDoorTie
import Derived.WalkKit
import Derived.ProofKit
import Derived.OpenShut
import Derived.Deep.DeepHandedRow
import Derived.Lib.LaidTab
import Derived.LaidSub
import Derived.Lay
import Derived.Test.YtjghdbdiejaacaaGreatDoorLogicD
import Derived.Test.YtjghdbdiejaacaaGreatDoorWalkE
set_option linter.all false
namespace Go.Proofs.YtjghdbdiejaacaaGreatDoor
open Go Go.Ab Ni Go.ChangeShapes Go.WideShapes Go.RowKit

theorem own : ownKnob Tryz.prog.godebug = none := by kernel_rfl
theorem laidOut : laidOutB Tryz.prog = true := by kernel_rfl
abbrev shSpan : Sh := .two (.int .i64) (.two (.int .i64) .unit)
abbrev shSc : Sh := .two (.int .i64) (.two (.int .i64) (.two (.int .i64) (.two .bool (.two (.int .i64) .unit))))
abbrev shPlan : Sh := .two (.int .i64) (.two (.two shSpan (.two shSpan .unit)) (.two shSpan (.two (.sl shSc) .unit)))
theorem sh27 : shOf Tryz.prog 5 27 = some shPlan := by kernel_rfl
theorem sh34 : shOf Tryz.prog 5 34 = some (.sl (.int .i64)) := by kernel_rfl
theorem sh3 : shOf Tryz.prog 5 3 = some (.int .i64) := by kernel_rfl
theorem sh9 : shOf Tryz.prog 5 9 = some .str := by kernel_rfl
def scOf (x : shSc.den) : Sc := ⟨x.1, x.2.1, x.2.2.1, x.2.2.2.1, x.2.2.2.2.1⟩
def plOf (y : shPlan.den) : Pl := ⟨y.1, y.2.1.1.1, y.2.1.1.2.1, y.2.1.2.1.1, y.2.1.2.1.2.1, y.2.2.1.1, y.2.2.1.2.1, List.map scOf y.2.2.2.1⟩
theorem map_sc : ∀ l : List shSc.den, (List.map scOf l).map sc = List.map shSc.av l
  | [] => rfl
  | a :: l => congrArg (List.cons (sc (scOf a))) (map_sc l)
theorem av_plan (y : shPlan.den) : shPlan.av y = planC (plOf y) :=
  congrArg (fun z => [I (plOf y).beg, I (plOf y).s0l, I (plOf y).s0h, I (plOf y).s1l, I (plOf y).s1h, I (plOf y).dl, I (plOf y).dh, AV.sl 5 z]) (map_sc _).symm

section args
variable {H : Type} {enc : TypeId × Value → H} {w : World} {v : Value} {d : DataW H} {ps : List MemPlace} {r : Reach} {b0 : Nat} {base : Nat} {spare : Nat → Bool} {held : Bool}
set_option maxRecDepth 100000 in
theorem arg_plan (hv : Value.okWide Tryz.prog w r b0 27 v) (h : DataW.Trod enc Tryz.prog w base spare held 27 v d ps) : ∃ p : Pl, Rep (env0 w) (plan p) v := by
  obtain ⟨y, hy⟩ := sh_arg 5 sh27 hv h
  rw [av_plan] at hy
  exact ⟨plOf y, arg_agg (.inl ⟨_, Tryz.underlying27⟩) hv hy⟩
set_option maxRecDepth 100000 in
theorem oneV_ok {t : TypeId} (hv : Value.okWide Tryz.prog w r b0 t v) (hu : (∃ k, Tryz.prog.underlying t = some (.int k)) ∨ Tryz.prog.underlying t = some .bool ∨ Tryz.prog.underlying t = some .string ∨ ∃ e, Tryz.prog.underlying t = some (.slice e)) : oneV v = true := by
  unfold Value.okWide at hv
  rcases hu with ⟨k, hu⟩ | hu | hu | ⟨e, hu⟩ <;> rw [hu] at hv <;> (cases v <;> first | rfl | (exfalso; simp only [Cell.okWide, hu, Cell.ok] at hv))
set_option maxRecDepth 100000 in
theorem arg_ints (hv : Value.okWide Tryz.prog w r b0 34 v) (h : DataW.Trod enc Tryz.prog w base spare held 34 v d ps) : ∃ l : List Int, Rep (env0 w) (ints l) v := by
  obtain ⟨y, hy⟩ := sh_arg 5 sh34 hv h
  exact ⟨y, arg_one (oneV_ok hv (.inr (.inr (.inr ⟨_, Tryz.underlying34⟩)))) hy⟩
set_option maxRecDepth 100000 in
theorem arg_int (hv : Value.okWide Tryz.prog w r b0 3 v) (h : DataW.Trod enc Tryz.prog w base spare held 3 v d ps) : ∃ n : Int, Rep (env0 w) (I n) v ∧ -9223372036854775808 ≤ n ∧ n ≤ 9223372036854775807 := by
  obtain ⟨n, rfl, _, _, hw⟩ := open_int Tryz.underlying3 hv h
  exact ⟨n, by rw [Rep], bounds_i64 hw⟩
set_option maxRecDepth 100000 in
theorem arg_str (hv : Value.okWide Tryz.prog w r b0 9 v) (h : DataW.Trod enc Tryz.prog w base spare held 9 v d ps) : ∃ l : List UInt8, Rep (env0 w) (S l) v := by
  obtain ⟨y, hy⟩ := sh_arg 5 sh9 hv h
  exact ⟨y, arg_one (oneV_ok hv (.inr (.inr (.inl Tryz.underlying9)))) hy⟩
end args

/-- the list that all rows of the seat bear -/
abbrev seatLaid : List (String × DataW Unit) := Rows.nightChoicesRow.laid
theorem gPow : Tryz.prog.globalNamed "internal/strconv.uint64pow10" = some 0 := by kernel_rfl
set_option maxRecDepth 100000 in
theorem tabs_of {W : World} (hL : laidMetH Tryz.prog seatLaid W) (hsh : W.ShapedOpen Tryz.prog) : Tabs.is W ∧ ∀ b, Tabs.blk b → b < W.heap.size := by
  have h1 := laidMetH.filter (fun x => x.1 == "internal/strconv.uint64pow10") hL
  have h2 : laidMet Tryz.prog [("internal/strconv.uint64pow10", Lib.tabData .u64 Lib.pow10Tab)] W := h1
  have ht : Lib.TabIs Tryz.prog W "internal/strconv.uint64pow10" .u64 Lib.pow10Tab := Lib.tabIs_of_head gPow (by kernel_rfl) Tryz.underlying210 (by kernel_rfl) (by kernel_rfl) (by kernel_rfl) h2
  have hm := Tryz.laysM146.s1_3 W hsh
  refine ⟨⟨hm, ht⟩, fun b hb => ?_⟩
  have lt : ∀ (b off : Nat) (v : Value), W.cell? ⟨b, off, none⟩ = some v → b < W.heap.size := fun b off v h => by
    unfold World.cell? at h
    split at h
    · rename_i hh; exact (Array.getElem?_eq_some_iff.1 hh).1
    · cases h
  rcases hb with rfl | hb
  · obtain ⟨m, hm⟩ := hm; exact lt _ _ _ hm
  · have := ht.cell hb 0 (by simp [Lib.pow10Tab]); exact lt _ _ _ this

/-- a world for the witnesses -/
noncomputable abbrev wit (os : Os) (args : Array Value) : World := (World.laidAll Tryz.prog os seatLaid).forCall (fun _ _ => 0) ⟨#[], args, []⟩
theorem laid_met (os : Os) (args : Array Value) : laidMet Tryz.prog seatLaid (wit os args).memory := laidMet_laidAll args (by kernel_rfl) (by kernel_rfl)
theorem wit_shaped (os : Os) (args : Array Value) : (wit os args).Shaped Tryz.prog := World.shaped_of_ZipB (by kernel_rfl) (by kernel_rfl)
theorem seat_witness {H : Type} {enc : TypeId × Value → H} {os : Os} {f : FuncId} {fn : Func} {s : OpenSpec} {conds : List PathCond} {args : Array Value}
    (hok : Input.okWideB Tryz.prog (wit os args) f ⟨#[], args, []⟩ = true) (hrow : s.preRow enc Tryz.prog fn conds false seatLaid (wit os args).memory args) :
    ∃ (w : World) (tape : Tape) (i : Input), w.os = os ∧ (w.forCall tape i).Shaped Tryz.prog ∧ i.vars = [] ∧ Input.okWide Tryz.prog (w.forCall tape i) .any w.heap.size f i ∧
      s.preRow enc Tryz.prog fn conds false seatLaid (w.forCall tape i).memory i.args ∧ ({} : Assume).holds Tryz.prog (lone (Frame.enter Tryz.prog f i.args .normal) [] (w.forCall tape i)) :=
  ⟨World.laidAll Tryz.prog os seatLaid, fun _ _ => 0, ⟨#[], args, []⟩, World.laidAll_os _ _ _, wit_shaped os args, (Input.okWide_of_okWideB (base := 0) hok).1, (Input.okWide_of_okWideB hok).2, hrow, by
    simp only [Assume.holds]
    exact ⟨by simp, by simp, by simp, by simp, by simp⟩⟩
end Go.Proofs.YtjghdbdiejaacaaGreatDoor
