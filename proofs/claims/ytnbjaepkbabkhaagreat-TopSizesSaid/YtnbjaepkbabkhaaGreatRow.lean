/-
  What the rows ask: arguments, tables, a witness. Conditions: none.
-/
import Derived.Test.YtnbjaepkbabkhaaGreatRows
import Derived.WalkKit
import Derived.ProofKit
import Derived.OpenShut
import Derived.Deep.DeepHandedRow
import Derived.Lib.LaidTab
import Derived.LaidSub
import Derived.Lay
import Derived.Test.YtnbjaepkbabkhaaGreatLogicD
import Derived.Test.YtnbjaepkbabkhaaGreatWalkD
set_option linter.all false
namespace Go.Proofs.YtnbjaepkbabkhaaGreat
open Go Go.Ab Br Go.ChangeShapes Go.WideShapes Go.RowKit
theorem own : ownKnob Tryz.prog.godebug = none := by kernel_rfl
theorem laidOut : laidOutB Tryz.prog = true := by kernel_rfl
abbrev sI : Sh := .int .i64
abbrev shSpan : Sh := .two sI (.two sI .unit)
abbrev shScb : Sh := .two sI (.two sI (.two sI (.two .bool (.two .bool .unit))))
abbrev shRul : Sh := .two sI (.two (.sl sI) .unit)
abbrev shSto : Sh := .two sI (.two (.sl shScb) (.two (.sl shRul) .unit))
abbrev shEvg : Sh := .two sI (.two (.two shSpan (.two shSpan .unit)) (.two shSpan .unit))
theorem sh25 : shOf Tryz.prog 6 25 = some shSto := by kernel_rfl
theorem sh30 : shOf Tryz.prog 6 30 = some shEvg := by kernel_rfl
theorem sh31 : shOf Tryz.prog 6 31 = some (.sl sI) := by kernel_rfl
def scbD (x : shScb.den) : Scb := ⟨x.1, x.2.1, x.2.2.1, x.2.2.2.1, x.2.2.2.2.1⟩
def rulD (x : shRul.den) : Rul := ⟨x.1, x.2.1⟩
def stoD (x : shSto.den) : Sto := ⟨x.1, List.map scbD x.2.1, List.map rulD x.2.2.1⟩
def evgD (y : shEvg.den) : Evg := ⟨y.1, y.2.1.1.1, y.2.1.1.2.1, y.2.1.2.1.1, y.2.1.2.1.2.1, y.2.2.1.1, y.2.2.1.2.1⟩
theorem map_scb : ∀ l : List shScb.den, (List.map scbD l).map scbC = List.map shScb.av l
  | [] => rfl
  | x :: l => congrArg (List.cons (shScb.av x)) (map_scb l)
theorem map_rul : ∀ l : List shRul.den, (List.map rulD l).map rulC = List.map shRul.av l
  | [] => rfl
  | x :: l => congrArg (List.cons (shRul.av x)) (map_rul l)
theorem av_sto (y : shSto.den) : shSto.av y = stoC (stoD y) :=
  congr (congrArg (fun a b => [I y.1, AV.sl 5 a, AV.sl 2 b]) (map_scb y.2.1).symm) (map_rul y.2.2.1).symm
theorem av_evg (y : shEvg.den) : shEvg.av y = evgC (evgD y) := rfl
section args
variable {H : Type} {enc : TypeId × Value → H} {w : World} {v : Value} {d : DataW H} {ps : List MemPlace} {r : Reach} {b0 : Nat} {base : Nat} {spare : Nat → Bool} {held : Bool}
variable (hsr : ∀ b, spare b = true)
include hsr
set_option maxRecDepth 100000 in
theorem arg_sto (hv : Value.okWide Tryz.prog w r b0 25 v) (h : DataW.Trod enc Tryz.prog w base spare held 25 v d ps) : ∃ p : Sto, Rep (env0 w) (stoA p) v := by
  obtain ⟨y, hy⟩ := sh_arg hsr 6 sh25 hv h
  rw [av_sto] at hy
  exact ⟨stoD y, arg_agg (.inl ⟨_, Tryz.underlying25⟩) hv hy⟩
set_option maxRecDepth 100000 in
theorem arg_evg (hv : Value.okWide Tryz.prog w r b0 30 v) (h : DataW.Trod enc Tryz.prog w base spare held 30 v d ps) : ∃ n : Evg, Rep (env0 w) (evgA n) v := by
  obtain ⟨y, hy⟩ := sh_arg hsr 6 sh30 hv h
  rw [av_evg] at hy
  exact ⟨evgD y, arg_agg (.inl ⟨_, Tryz.underlying30⟩) hv hy⟩
omit hsr in
set_option maxRecDepth 100000 in
theorem oneV_ok {t : TypeId} (hv : Value.okWide Tryz.prog w r b0 t v) (hu : (∃ k, Tryz.prog.underlying t = some (.int k)) ∨ Tryz.prog.underlying t = some .bool ∨ Tryz.prog.underlying t = some .string ∨ ∃ e, Tryz.prog.underlying t = some (.slice e)) : oneV v = true := by
  unfold Value.okWide at hv
  rcases hu with ⟨k, hu⟩ | hu | hu | ⟨e, hu⟩ <;> rw [hu] at hv <;> (cases v <;> first | rfl | (exfalso; simp only [Cell.okWide, hu, Cell.ok] at hv))
set_option maxRecDepth 100000 in
theorem arg_ints (hv : Value.okWide Tryz.prog w r b0 31 v) (h : DataW.Trod enc Tryz.prog w base spare held 31 v d ps) : ∃ l : List Int, Rep (env0 w) (ints l) v := by
  obtain ⟨y, hy⟩ := sh_arg hsr 6 sh31 hv h
  exact ⟨y, arg_one (oneV_ok hv (.inr (.inr (.inr ⟨_, Tryz.underlying31⟩)))) hy⟩
omit hsr in
set_option maxRecDepth 100000 in
theorem arg_int (hv : Value.okWide Tryz.prog w r b0 3 v) (h : DataW.Trod enc Tryz.prog w base spare held 3 v d ps) : ∃ n : Int, Rep (env0 w) (I n) v ∧ -9223372036854775808 ≤ n ∧ n ≤ 9223372036854775807 := by
  obtain ⟨n, rfl, _, _, hw⟩ := open_int Tryz.underlying3 hv h
  exact ⟨n, by rw [Rep], bounds_i64 hw⟩
end args
abbrev seatLaid : List (String × DataW Unit) := Rows.topHoursRow.laid
theorem tabs_of {W : World} : Tabs.is W ∧ ∀ b, Tabs.blk b → b < W.heap.size := ⟨trivial, fun b hb => hb.elim⟩
noncomputable abbrev wit (os : Os) (args : Array Value) : World := (World.laidAll Tryz.prog os seatLaid).forCall (fun _ _ => 0) ⟨#[], args, []⟩
theorem laid_met (os : Os) (args : Array Value) : laidMet Tryz.prog seatLaid (wit os args).memory := laidMet_laidAll args (by kernel_rfl) (by kernel_rfl)
theorem wit_shaped (os : Os) (args : Array Value) : (wit os args).Shaped Tryz.prog := World.shaped_of_ZipB (by kernel_rfl) (by kernel_rfl)
theorem seat_witness {H : Type} {enc : TypeId × Value → H} {os : Os} {f : FuncId} {fn : Func} {s : OpenSpec} {conds : List PathCond} {args : Array Value}
    (hok : Input.okWideB Tryz.prog (wit os args) f ⟨#[], args, []⟩ = true) (hrow : s.preRow enc Tryz.prog fn conds false seatLaid (wit os args).memory args) :
    ∃ (w : World) (tape : Tape) (i : Input), w.os = os ∧ (w.forCall tape i).Shaped Tryz.prog ∧ i.vars = [] ∧ Input.okWide Tryz.prog (w.forCall tape i) .any w.heap.size f i ∧
      s.preRow enc Tryz.prog fn conds false seatLaid (w.forCall tape i).memory i.args ∧ ({} : Assume).holds Tryz.prog (lone (Frame.enter Tryz.prog f i.args .normal) [] (w.forCall tape i)) :=
  ⟨World.laidAll Tryz.prog os seatLaid, fun _ _ => 0, ⟨#[], args, []⟩, World.laidAll_os _ _ _, wit_shaped os args, (Input.okWide_of_okWideB (base := 0) hok).1, (Input.okWide_of_okWideB hok).2, hrow, by
    simp only [Assume.holds]
    exact ⟨by simp, by simp, by simp, by simp, by simp⟩⟩
section closed
set_option maxRecDepth 100000
theorem pRows : mapsRowed Tryz.pinned.checked.prog = true := by kernel_rfl
theorem pHeard : Tryz.pinned.checked.prog.stopsHeard = true := by kernel_rfl
theorem pEnter : Tryz.pinned.checked.prog.mayEnter = true := by kernel_rfl
theorem pLifted : (Rows.topHoursRow.lifted == Tryz.pinned.checked.prog.liftsFinal) = true := by kernel_rfl
theorem pMake : (Tryz.pinned.checked.prog.make == some Rows.topHoursRow.make) = true := by kernel_rfl
theorem pKeys : (Rows.topHoursRow.plainKeys == Tryz.pinned.checked.prog.plainKeys) = true := by kernel_rfl
end closed
theorem and_of {a b : Bool} (h : a = true) (k : b = true) : (a && b) = true := by rw [h, k]; rfl
end Go.Proofs.YtnbjaepkbabkhaaGreat
