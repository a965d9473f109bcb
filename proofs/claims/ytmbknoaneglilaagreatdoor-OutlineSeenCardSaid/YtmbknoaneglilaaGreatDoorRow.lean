/-
  What the rows ask: arguments, tables, a witness. Conditions: none.
-/
import Derived.Test.YtmbknoaneglilaaGreatDoorCards
import Derived.Test.YtmbknoaneglilaaGreatDoorTie
import Derived.WalkKit
import Derived.ProofKit
import Derived.OpenShut
import Derived.Deep.DeepHandedRow
import Derived.Lib.LaidTab
import Derived.LaidSub
import Derived.Lay
import Derived.Test.YtmbknoaneglilaaGreatDoorLogicD
import Derived.Test.YtmbknoaneglilaaGreatDoorWalkE
set_option linter.all false
namespace Go.Proofs.YtmbknoaneglilaaGreatDoor
open Go Go.Ab Ni Ol Go.ChangeShapes Go.WideShapes Go.RowKit
theorem own : ownKnob Tryz.prog.godebug = none := by kernel_rfl
theorem laidOut : laidOutB Tryz.prog = true := by kernel_rfl
abbrev sI : Sh := .int .i64
abbrev shStage : Sh := .two sI (.two sI (.two sI (.two sI (.two sI (.two sI .unit)))))
abbrev shFig : Sh := .two (.sl .str) .unit
abbrev shPlace : Sh := .two sI (.two sI (.two sI .unit))
abbrev shSpan : Sh := .two sI (.two sI .unit)
abbrev shReach : Sh := .two shSpan (.two shSpan (.two sI .unit))
abbrev shReading : Sh := .two sI (.two shPlace .unit)
abbrev shBook : Sh := .two shStage (.two (.sl shFig) .unit)
theorem sh23 : shOf Tryz.prog 6 23 = some shStage := by kernel_rfl
theorem sh26 : shOf Tryz.prog 6 26 = some shFig := by kernel_rfl
theorem sh28 : shOf Tryz.prog 6 28 = some shPlace := by kernel_rfl
theorem sh49 : shOf Tryz.prog 6 49 = some shReach := by kernel_rfl
theorem sh73 : shOf Tryz.prog 6 73 = some shReading := by kernel_rfl
theorem sh81 : shOf Tryz.prog 6 81 = some shBook := by kernel_rfl
theorem sh45 : shOf Tryz.prog 6 45 = some (.sl shFig) := by kernel_rfl
theorem sh24 : shOf Tryz.prog 6 24 = some (.sl .str) := by kernel_rfl
theorem sh64 : shOf Tryz.prog 6 64 = some (.sl sI) := by kernel_rfl
theorem sh126 : shOf Tryz.prog 6 126 = some (.sl shPlace) := by kernel_rfl
theorem sh3 : shOf Tryz.prog 6 3 = some sI := by kernel_rfl
theorem sh4 : shOf Tryz.prog 6 4 = some .bool := by kernel_rfl
theorem sh9 : shOf Tryz.prog 6 9 = some .str := by kernel_rfl
def sgD (x : shStage.den) : Sg := ⟨x.1, x.2.1, x.2.2.1, x.2.2.2.1, x.2.2.2.2.1, x.2.2.2.2.2.1⟩
def fgD (x : shFig.den) : Fg := x.1
def pcD (x : shPlace.den) : Pc := ⟨x.1, x.2.1, x.2.2.1⟩
def rcD (x : shReach.den) : Rc := ⟨x.1.1, x.1.2.1, x.2.1.1, x.2.1.2.1, x.2.2.1⟩
theorem map_fg : ∀ l : List shFig.den, (List.map fgD l).map (fun f => [strs f]) = List.map shFig.av l
  | [] => rfl
  | _ :: l => congrArg (List.cons _) (map_fg l)
theorem map_pc : ∀ l : List shPlace.den, (List.map pcD l).map pcC = List.map shPlace.av l
  | [] => rfl
  | _ :: l => congrArg (List.cons _) (map_pc l)
section args
variable {H : Type} {enc : TypeId × Value → H} {w : World} {v : Value} {d : DataW H} {ps : List MemPlace} {r : Reach} {b0 : Nat} {base : Nat} {spare : Nat → Bool} {held : Bool}
variable (hsr : ∀ b, spare b = true)
include hsr
set_option maxRecDepth 100000 in
theorem arg_stage (hv : Value.okWide Tryz.prog w r b0 23 v) (h : DataW.Trod enc Tryz.prog w base spare held 23 v d ps) : ∃ s : Sg, Rep (env0 w) (stA s) v := by
  obtain ⟨y, hy⟩ := sh_arg hsr 6 sh23 hv h
  exact ⟨sgD y, arg_agg (.inl ⟨_, Tryz.underlying23⟩) hv hy⟩
set_option maxRecDepth 100000 in
theorem arg_fig (hv : Value.okWide Tryz.prog w r b0 26 v) (h : DataW.Trod enc Tryz.prog w base spare held 26 v d ps) : ∃ f : Fg, Rep (env0 w) (fgA f) v := by
  obtain ⟨y, hy⟩ := sh_arg hsr 6 sh26 hv h
  exact ⟨fgD y, arg_agg (.inl ⟨_, Tryz.underlying26⟩) hv hy⟩
set_option maxRecDepth 100000 in
theorem arg_place (hv : Value.okWide Tryz.prog w r b0 28 v) (h : DataW.Trod enc Tryz.prog w base spare held 28 v d ps) : ∃ p : Pc, Rep (env0 w) (pcA p) v := by
  obtain ⟨y, hy⟩ := sh_arg hsr 6 sh28 hv h
  exact ⟨pcD y, arg_agg (.inl ⟨_, Tryz.underlying28⟩) hv hy⟩
set_option maxRecDepth 100000 in
theorem arg_reach (hv : Value.okWide Tryz.prog w r b0 49 v) (h : DataW.Trod enc Tryz.prog w base spare held 49 v d ps) : ∃ q : Rc, Rep (env0 w) (rcA q) v := by
  obtain ⟨y, hy⟩ := sh_arg hsr 6 sh49 hv h
  exact ⟨rcD y, arg_agg (.inl ⟨_, Tryz.underlying49⟩) hv hy⟩
set_option maxRecDepth 100000 in
theorem arg_reading (hv : Value.okWide Tryz.prog w r b0 73 v) (h : DataW.Trod enc Tryz.prog w base spare held 73 v d ps) : ∃ (f : Int) (p : Pc), Rep (env0 w) (.agg [I f, I p.near, I p.x, I p.y]) v := by
  obtain ⟨y, hy⟩ := sh_arg hsr 6 sh73 hv h
  exact ⟨y.1, pcD y.2.1, arg_agg (.inl ⟨_, Tryz.underlying73⟩) hv hy⟩
set_option maxRecDepth 100000 in
theorem arg_book (hv : Value.okWide Tryz.prog w r b0 81 v) (h : DataW.Trod enc Tryz.prog w base spare held 81 v d ps) : ∃ b : Bk, Rep (env0 w) (bkA b) v := by
  obtain ⟨y, hy⟩ := sh_arg hsr 6 sh81 hv h
  refine ⟨⟨sgD y.1, y.2.1.map fgD⟩, ?_⟩
  have e : shBook.av y = bkC ⟨sgD y.1, y.2.1.map fgD⟩ := congrArg (fun z => stC (sgD y.1) ++ [AV.sl 1 z]) (map_fg y.2.1).symm
  rw [e] at hy
  exact arg_agg (.inl ⟨_, Tryz.underlying81⟩) hv hy
omit hsr in
set_option maxRecDepth 100000 in
theorem oneV_ok {t : TypeId} (hv : Value.okWide Tryz.prog w r b0 t v) (hu : (∃ k, Tryz.prog.underlying t = some (.int k)) ∨ Tryz.prog.underlying t = some .bool ∨ Tryz.prog.underlying t = some .string ∨ ∃ e, Tryz.prog.underlying t = some (.slice e)) : oneV v = true := by
  unfold Value.okWide at hv
  rcases hu with ⟨k, hu⟩ | hu | hu | ⟨e, hu⟩ <;> rw [hu] at hv <;> (cases v <;> first | rfl | (exfalso; simp only [Cell.okWide, hu, Cell.ok] at hv))
set_option maxRecDepth 100000 in
theorem arg_figs (hv : Value.okWide Tryz.prog w r b0 45 v) (h : DataW.Trod enc Tryz.prog w base spare held 45 v d ps) : ∃ l : List Fg, Rep (env0 w) (figs l) v := by
  obtain ⟨y, hy⟩ := sh_arg hsr 6 sh45 hv h
  refine ⟨List.map fgD y, ?_⟩
  have e : (Sh.sl shFig).av y = [figs (List.map fgD y)] := congrArg (fun z => [AV.sl 1 z]) (map_fg y).symm
  rw [e] at hy
  exact arg_one (oneV_ok hv (.inr (.inr (.inr ⟨_, Tryz.underlying45⟩)))) hy
set_option maxRecDepth 100000 in
theorem arg_places (hv : Value.okWide Tryz.prog w r b0 126 v) (h : DataW.Trod enc Tryz.prog w base spare held 126 v d ps) : ∃ l : List Pc, Rep (env0 w) (.sl 3 (l.map pcC)) v := by
  obtain ⟨y, hy⟩ := sh_arg hsr 6 sh126 hv h
  refine ⟨List.map pcD y, ?_⟩
  have e : (Sh.sl shPlace).av y = [.sl 3 ((List.map pcD y).map pcC)] := congrArg (fun z => [AV.sl 3 z]) (map_pc y).symm
  rw [e] at hy
  exact arg_one (oneV_ok hv (.inr (.inr (.inr ⟨_, Tryz.underlying126⟩)))) hy
set_option maxRecDepth 100000 in
theorem arg_strs (hv : Value.okWide Tryz.prog w r b0 24 v) (h : DataW.Trod enc Tryz.prog w base spare held 24 v d ps) : ∃ l : List (List UInt8), Rep (env0 w) (strs l) v := by
  obtain ⟨y, hy⟩ := sh_arg hsr 6 sh24 hv h
  exact ⟨y, arg_one (oneV_ok hv (.inr (.inr (.inr ⟨_, Tryz.underlying24⟩)))) hy⟩
set_option maxRecDepth 100000 in
theorem arg_ints (hv : Value.okWide Tryz.prog w r b0 64 v) (h : DataW.Trod enc Tryz.prog w base spare held 64 v d ps) : ∃ l : List Int, Rep (env0 w) (ints l) v := by
  obtain ⟨y, hy⟩ := sh_arg hsr 6 sh64 hv h
  exact ⟨y, arg_one (oneV_ok hv (.inr (.inr (.inr ⟨_, Tryz.underlying64⟩)))) hy⟩
set_option maxRecDepth 100000 in
theorem arg_bool (hv : Value.okWide Tryz.prog w r b0 4 v) (h : DataW.Trod enc Tryz.prog w base spare held 4 v d ps) : ∃ x : Bool, Rep (env0 w) (B x) v := by
  obtain ⟨y, hy⟩ := sh_arg hsr 6 sh4 hv h
  exact ⟨y, arg_one (oneV_ok hv (.inr (.inl Tryz.underlying4))) hy⟩
set_option maxRecDepth 100000 in
theorem arg_str (hv : Value.okWide Tryz.prog w r b0 9 v) (h : DataW.Trod enc Tryz.prog w base spare held 9 v d ps) : ∃ l : List UInt8, Rep (env0 w) (S l) v := by
  obtain ⟨y, hy⟩ := sh_arg hsr 6 sh9 hv h
  exact ⟨y, arg_one (oneV_ok hv (.inr (.inr (.inl Tryz.underlying9)))) hy⟩
omit hsr in
set_option maxRecDepth 100000 in
theorem arg_int (hv : Value.okWide Tryz.prog w r b0 3 v) (h : DataW.Trod enc Tryz.prog w base spare held 3 v d ps) : ∃ n : Int, Rep (env0 w) (I n) v ∧ -9223372036854775808 ≤ n ∧ n ≤ 9223372036854775807 := by
  obtain ⟨n, rfl, _, _, hw⟩ := open_int Tryz.underlying3 hv h
  exact ⟨n, by rw [Rep], bounds_i64 hw⟩
end args
abbrev seatLaid : List (String × DataW Unit) := Rows.outlineRaysRow.laid
theorem gMax : Tryz.prog.globalNamed "internal/bytealg.MaxLen" = some 0 := by kernel_rfl
theorem gPow : Tryz.prog.globalNamed "internal/strconv.uint64pow10" = some 1 := by kernel_rfl
set_option maxRecDepth 100000 in
theorem tabs_of {W : World} (hL : laidMetH Tryz.prog seatLaid W) (hsh : W.ShapedOpen Tryz.prog) : Tabs.is W ∧ ∀ b, Tabs.blk b → b < W.heap.size := by
  have h1 := laidMetH.filter (fun x => x.1 == "internal/strconv.uint64pow10") hL
  have h2 : laidMet Tryz.prog [("internal/strconv.uint64pow10", Lib.tabData .u64 Lib.pow10Tab)] W := h1
  have ht : Lib.TabIs Tryz.prog W "internal/strconv.uint64pow10" .u64 Lib.pow10Tab := Lib.tabIs_of_head gPow (by kernel_rfl) Tryz.underlying266 (by kernel_rfl) (by kernel_rfl) (by kernel_rfl) h2
  obtain ⟨m, hm⟩ := Tryz.laysM146.s1_3 W hsh
  have lt : ∀ (b off : Nat) (v : Value), W.cell? ⟨b, off, none⟩ = some v → b < W.heap.size := fun b off v h => by
    unfold World.cell? at h
    split at h
    · rename_i hh; exact (Array.getElem?_eq_some_iff.1 hh).1
    · cases h
  refine ⟨⟨⟨0, m, gMax, hm⟩, ht⟩, fun b hb => ?_⟩
  rcases hb with hb | hb
  · rw [gMax] at hb; cases hb; exact lt _ _ _ hm
  · rw [gPow] at hb; cases hb
    have := ht.cell gPow 0 (by simp [Lib.pow10Tab]); exact lt _ _ _ this
noncomputable abbrev wit (os : Os) (args : Array Value) : World := (World.laidAll Tryz.prog os seatLaid).forCall (fun _ _ => 0) ⟨#[], args, []⟩
theorem laid_met (os : Os) (args : Array Value) : laidMet Tryz.prog seatLaid (wit os args).memory := laidMet_laidAll args (by kernel_rfl) (by kernel_rfl)
theorem wit_shaped (os : Os) (args : Array Value) : (wit os args).Shaped Tryz.prog := World.shaped_of_ZipB (by kernel_rfl) (by kernel_rfl)
theorem seat_witness {H : Type} {enc : TypeId × Value → H} {os : Os} {f : FuncId} {fn : Func} {s : OpenSpec} {conds : List PathCond} {args : Array Value}
    (hok : Input.okWideB Tryz.prog (wit os args) f ⟨#[], args, []⟩ = true) (hrow : s.preRow enc Tryz.prog fn conds false seatLaid (wit os args).memory args) :
    ∃ (w : World) (tape : Tape) (i : Input), w.os = os ∧ (w.forCall tape i).Shaped Tryz.prog ∧ i.vars = [] ∧ Input.okWide Tryz.prog (w.forCall tape i) .any w.heap.size f i ∧
      s.preRow enc Tryz.prog fn conds false seatLaid (w.forCall tape i).memory i.args ∧ ({} : Assume).holds Tryz.prog (lone (Frame.enter Tryz.prog f i.args .normal) [] (w.forCall tape i)) :=
  ⟨World.laidAll Tryz.prog os seatLaid, fun _ _ => 0, ⟨#[], args, []⟩, World.laidAll_os _ _ _, wit_shaped os args, (Input.okWide_of_okWideB (base := 0) hok).1, (Input.okWide_of_okWideB hok).2, hrow, by
    simp only [Assume.holds]
    exact ⟨by simp, by simp, by simp, by simp, by simp⟩⟩
section closed
set_option maxRecDepth 100000
theorem pRows : mapsRowed Tryz.pinned.checked.prog = true := by kernel_rfl
theorem pHeard : Tryz.pinned.checked.prog.stopsHeard = true := by kernel_rfl
theorem pEnter : Tryz.pinned.checked.prog.mayEnter = true := by kernel_rfl
theorem pLifted : (Rows.outlineRaysRow.lifted == Tryz.pinned.checked.prog.liftsFinal) = true := by kernel_rfl
theorem pMake : (Tryz.pinned.checked.prog.make == some Rows.outlineRaysRow.make) = true := by kernel_rfl
theorem pKeys : (Rows.outlineRaysRow.plainKeys == Tryz.pinned.checked.prog.plainKeys) = true := by kernel_rfl
theorem pLooks : true = Tryz.pinned.checked.prog.looks [] := by kernel_rfl
end closed
theorem and_of {a b : Bool} (h : a = true) (k : b = true) : (a && b) = true := by rw [h, k]; rfl
end Go.Proofs.YtmbknoaneglilaaGreatDoor
