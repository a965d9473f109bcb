/-
  What the rows ask: arguments, tables, a witness. Conditions: none.
-/
import Derived.Test.YtfmpabgblbbcdaaGreatDoorCards
import Derived.Test.YtfmpabgblbbcdaaGreatDoorTie
import Derived.WalkKit
import Derived.ProofKit
import Derived.OpenShut
import Derived.Deep.DeepHandedRow
import Derived.Lib.LaidTab
import Derived.LaidSub
import Derived.Lay
import Derived.Test.YtfmpabgblbbcdaaGreatDoorLogicD
import Derived.Test.YtfmpabgblbbcdaaGreatDoorWalkG
set_option linter.all false
namespace Go.Proofs.YtfmpabgblbbcdaaGreatDoor
open Go Go.Ab Ni St Go.ChangeShapes Go.WideShapes Go.RowKit
theorem own : ownKnob Tryz.prog.godebug = none := by kernel_rfl
theorem laidOut : laidOutB Tryz.prog = true := by kernel_rfl
abbrev sI : Sh := .int .i64
abbrev shFgr : Sh := .two sI (.two sI (.two sI .unit))
abbrev shScn : Sh := .two (.sl sI) (.two (.sl sI) (.two sI (.two (.sl sI) .unit)))
abbrev shPly : Sh := .two sI (.two (.sl sI) (.two (.sl shFgr) (.two (.sl shScn) .unit)))
theorem sh26 : shOf Tryz.prog 6 26 = some shPly := by kernel_rfl
theorem sh22 : shOf Tryz.prog 6 22 = some (.sl sI) := by kernel_rfl
theorem sh61 : shOf Tryz.prog 6 61 = some (.sl (.sl sI)) := by kernel_rfl
theorem sh3 : shOf Tryz.prog 6 3 = some sI := by kernel_rfl
theorem sh4 : shOf Tryz.prog 6 4 = some .bool := by kernel_rfl
theorem sh9 : shOf Tryz.prog 6 9 = some .str := by kernel_rfl
def fgD (x : shFgr.den) : Fgr := ⟨x.1, x.2.1, x.2.2.1⟩
def scD (x : shScn.den) : Scn := ⟨x.1, x.2.1, x.2.2.1, x.2.2.2.1⟩
def plD (x : shPly.den) : Ply := ⟨x.1, x.2.1, List.map fgD x.2.2.1, List.map scD x.2.2.2.1⟩
theorem map_fg : ∀ l : List shFgr.den, (List.map fgD l).map fgC = List.map shFgr.av l
  | [] => rfl
  | x :: l => congrArg (List.cons (shFgr.av x)) (map_fg l)
theorem map_sc : ∀ l : List shScn.den, (List.map scD l).map scC = List.map shScn.av l
  | [] => rfl
  | x :: l => congrArg (List.cons (shScn.av x)) (map_sc l)
theorem av_pl (y : shPly.den) : shPly.av y = plC (plD y) :=
  congr (congrArg (fun a b => [I y.1, ints y.2.1, AV.sl 3 a, AV.sl 4 b]) (map_fg y.2.2.1).symm) (map_sc y.2.2.2.1).symm
section args
variable {H : Type} {enc : TypeId × Value → H} {w : World} {v : Value} {d : DataW H} {ps : List MemPlace} {r : Reach} {b0 : Nat} {base : Nat} {spare : Nat → Bool} {held : Bool}
variable (hsr : ∀ b, spare b = true)
include hsr
set_option maxRecDepth 100000 in
theorem arg_play (hv : Value.okWide Tryz.prog w r b0 26 v) (h : DataW.Trod enc Tryz.prog w base spare held 26 v d ps) : ∃ p : Ply, Rep (env0 w) (plA p) v := by
  obtain ⟨y, hy⟩ := sh_arg hsr 6 sh26 hv h
  rw [av_pl] at hy
  exact ⟨plD y, arg_agg (.inl ⟨_, Tryz.underlying26⟩) hv hy⟩
omit hsr in
set_option maxRecDepth 100000 in
theorem oneV_ok {t : TypeId} (hv : Value.okWide Tryz.prog w r b0 t v) (hu : (∃ k, Tryz.prog.underlying t = some (.int k)) ∨ Tryz.prog.underlying t = some .bool ∨ Tryz.prog.underlying t = some .string ∨ ∃ e, Tryz.prog.underlying t = some (.slice e)) : oneV v = true := by
  unfold Value.okWide at hv
  rcases hu with ⟨k, hu⟩ | hu | hu | ⟨e, hu⟩ <;> rw [hu] at hv <;> (cases v <;> first | rfl | (exfalso; simp only [Cell.okWide, hu, Cell.ok] at hv))
set_option maxRecDepth 100000 in
theorem arg_ints (hv : Value.okWide Tryz.prog w r b0 22 v) (h : DataW.Trod enc Tryz.prog w base spare held 22 v d ps) : ∃ l : List Int, Rep (env0 w) (ints l) v := by
  obtain ⟨y, hy⟩ := sh_arg hsr 6 sh22 hv h
  exact ⟨y, arg_one (oneV_ok hv (.inr (.inr (.inr ⟨_, Tryz.underlying22⟩)))) hy⟩
set_option maxRecDepth 100000 in
theorem arg_intsB (hv : Value.okWide Tryz.prog w r b0 22 v) (h : DataW.Trod enc Tryz.prog w base spare held 22 v d ps) : ∃ l : List Int, Rep (env0 w) (ints l) v ∧ (l.length : Int) ≤ 9223372036854775807 := by
  obtain ⟨l, hl⟩ := arg_ints hsr hv h
  refine ⟨l, hl, ?_⟩
  have hl' := hl
  rw [Rep] at hl'
  obtain ⟨a, len, cap, rfl, hlen, hle, ha, _⟩ := hl'
  have hlen : len = l.length := by simpa using hlen
  cases a with
  | none => have := ha rfl; omega
  | some ad =>
    have hu := Tryz.underlying22
    unfold Value.okWide at hv
    rw [hu] at hv
    simp only [Cell.okWide, Cell.ok, hu] at hv
    have h2 := hv.2.1
    have h3 : IntKind.i64.max = 9223372036854775807 := by decide
    omega
set_option maxRecDepth 100000 in
theorem arg_hds (hv : Value.okWide Tryz.prog w r b0 61 v) (h : DataW.Trod enc Tryz.prog w base spare held 61 v d ps) : ∃ l : List (List Int), Rep (env0 w) (hds l) v := by
  obtain ⟨y, hy⟩ := sh_arg hsr 6 sh61 hv h
  exact ⟨y, arg_one (oneV_ok hv (.inr (.inr (.inr ⟨_, Tryz.underlying61⟩)))) hy⟩
set_option maxRecDepth 100000 in
theorem arg_bool (hv : Value.okWide Tryz.prog w r b0 4 v) (h : DataW.Trod enc Tryz.prog w base spare held 4 v d ps) : ∃ x : Bool, Rep (env0 w) (B x) v := by
  obtain ⟨y, hy⟩ := sh_arg hsr 6 sh4 hv h
  exact ⟨y, arg_one (oneV_ok hv (.inr (.inl Tryz.underlying4))) hy⟩
set_option maxRecDepth 100000 in
theorem arg_str (hv : Value.okWide Tryz.prog w r b0 9 v) (h : DataW.Trod enc Tryz.prog w base spare held 9 v d ps) : ∃ l : List UInt8, Rep (env0 w) (S l) v := by
  obtain ⟨y, hy⟩ := sh_arg hsr 6 sh9 hv h
  exact ⟨y, arg_one (oneV_ok hv (.inr (.inr (.inl Tryz.underlying9)))) hy⟩
omit hsr in
set_option maxRecDepth 100000 in
theorem arg_int (hv : Value.okWide Tryz.prog w r b0 3 v) (h : DataW.Trod enc Tryz.prog w base spare held 3 v d ps) : ∃ n : Int, Rep (env0 w) (I n) v ∧ -9223372036854775808 ≤ n ∧ n ≤ 9223372036854775807 := by
  obtain ⟨n, rfl, _, _, hw⟩ := open_int Tryz.underlying3 hv h
  exact ⟨n, by rw [Rep], bounds_i64 hw⟩
end args
abbrev seatLaid : List (String × DataW Unit) := Rows.stemPrintsRow.laid
theorem gMax : Tryz.prog.globalNamed "internal/bytealg.MaxLen" = some 1 := by kernel_rfl
theorem gPow : Tryz.prog.globalNamed "internal/strconv.uint64pow10" = some 0 := by kernel_rfl
set_option maxRecDepth 100000 in
theorem tabs_of {W : World} (hL : laidMetH Tryz.prog seatLaid W) (hsh : W.ShapedOpen Tryz.prog) : Tabs.is W ∧ ∀ b, Tabs.blk b → b < W.heap.size := by
  have h1 := laidMetH.filter (fun x => x.1 == "internal/strconv.uint64pow10") hL
  have h2 : laidMet Tryz.prog [("internal/strconv.uint64pow10", Lib.tabData .u64 Lib.pow10Tab)] W := h1
  have ht : Lib.TabIs Tryz.prog W "internal/strconv.uint64pow10" .u64 Lib.pow10Tab := Lib.tabIs_of_head gPow (by kernel_rfl) Tryz.underlying252 (by kernel_rfl) (by kernel_rfl) (by kernel_rfl) h2
  obtain ⟨m, hm⟩ := Tryz.laysM146.s1_3 W hsh
  have lt : ∀ (b off : Nat) (v : Value), W.cell? ⟨b, off, none⟩ = some v → b < W.heap.size := fun b off v h => by
    unfold World.cell? at h
    split at h
    · rename_i hh; exact (Array.getElem?_eq_some_iff.1 hh).1
    · cases h
  refine ⟨⟨⟨1, m, gMax, hm⟩, ht⟩, fun b hb => ?_⟩
  rcases hb with hb | hb
  · rw [gMax] at hb; cases hb; exact lt _ _ _ hm
  · rw [gPow] at hb; cases hb
    have := ht.cell gPow 0 (by simp [Lib.pow10Tab]); exact lt _ _ _ this
noncomputable abbrev wit (os : Os) (args : Array Value) : World := (World.laidAll Tryz.prog os seatLaid).forCall (fun _ _ => 0) ⟨#[], args, []⟩
theorem laid_met (os : Os) (args : Array Value) : laidMet Tryz.prog seatLaid (wit os args).memory := laidMet_laidAll args (by kernel_rfl) (by kernel_rfl)
theorem wit_shaped (os : Os) (args : Array Value) : (wit os args).Shaped Tryz.prog := World.shaped_of_ZipB (by kernel_rfl) (by kernel_rfl)
theorem seat_witness {H : Type} {enc : TypeId × Value → H} {os : Os} {f : FuncId} {fn : Func} {s : OpenSpec} {conds : List PathCond} {args : Array Value}
    (hok : Input.okWideB Tryz.prog (wit os args) f ⟨#[], args, []⟩ = true) (hrow : s.preRow enc Tryz.prog fn conds false seatLaid (wit os args).memory args) :
    ∃ (w : World) (tape : Tape) (i : Input), w.os = os ∧ (w.forCall tape i).Shaped Tryz.prog ∧ i.vars = [] ∧ Input.okWide Tryz.prog (w.forCall tape i) .any w.heap.size f i ∧
      s.preRow enc Tryz.prog fn conds false seatLaid (w.forCall tape i).memory i.args ∧ ({} : Assume).holds Tryz.prog (lone (Frame.enter Tryz.prog f i.args .normal) [] (w.forCall tape i)) :=
  ⟨World.laidAll Tryz.prog os seatLaid, fun _ _ => 0, ⟨#[], args, []⟩, World.laidAll_os _ _ _, wit_shaped os args, (Input.okWide_of_okWideB (base := 0) hok).1, (Input.okWide_of_okWideB hok).2, hrow, by
    simp only [Assume.holds]
    exact ⟨by simp, by simp, by simp, by simp, by simp⟩⟩
section closed
set_option maxRecDepth 100000
theorem pRows : mapsRowed Tryz.pinned.checked.prog = true := by kernel_rfl
theorem pHeard : Tryz.pinned.checked.prog.stopsHeard = true := by kernel_rfl
theorem pEnter : Tryz.pinned.checked.prog.mayEnter = true := by kernel_rfl
theorem pLifted : (Rows.stemPrintsRow.lifted == Tryz.pinned.checked.prog.liftsFinal) = true := by kernel_rfl
theorem pMake : (Tryz.pinned.checked.prog.make == some Rows.stemPrintsRow.make) = true := by kernel_rfl
theorem pKeys : (Rows.stemPrintsRow.plainKeys == Tryz.pinned.checked.prog.plainKeys) = true := by kernel_rfl
theorem pLooks : true = Tryz.pinned.checked.prog.looks [] := by kernel_rfl
end closed
theorem and_of {a b : Bool} (h : a = true) (k : b = true) : (a && b) = true := by rw [h, k]; rfl
end Go.Proofs.YtfmpabgblbbcdaaGreatDoor
