/-
  A part of the proof: conditions: none beyond each theorem's own.
-/
import Derived.Test.YtmbknoaneglilaaGreatDoorLogicD
import Derived.IntWalk
set_option linter.all false
namespace Go.Ab
variable [Tabs]
theorem J {a : AV} : Less a a := Less.rfl' a
class TyF (P : Program) (t : TypeId) (b : outParam Bool) (n : outParam Nat) : Prop where h : tySz P t = some (b, n)
class FoF (P : Program) (s : TypeId) (f : Nat) (k : outParam Nat) (ft : outParam TypeId) : Prop where h : fOff P s f = some (k, ft)
class SlE (P : Program) (t : TypeId) (e : outParam TypeId) (n : outParam Nat) : Prop where h : slElem P t = some (e, n)
class SlS (P : Program) (t : TypeId) (e : outParam TypeId) (n b : outParam Nat) : Prop where h : SlFact P t e n b
class ArE (P : Program) (t : TypeId) (m : outParam Nat) (e : outParam TypeId) (n : outParam Nat) : Prop where h : arrElem P t = some (m, e, n)
class BdI (P : Program) (t : TypeId) (z : outParam (List AV)) (b : outParam Bool) (l : outParam (List (Nat × Nat))) (n : outParam Nat) : Prop where h : bldInfo P t = some (z, b, l, n)
class ZeO (P : Program) (t : TypeId) (z : outParam (List AV)) : Prop where h : zeroOf P t = some z
class UnD (P : Program) (t : TypeId) (d : outParam TypeDesc) : Prop where h : P.underlying t = some d
class NiF (P : Program) (t : TypeId) : Prop where h : notIface P t = true
class EnT (P : Program) (f : FuncId) : Prop where h : Ent P f
theorem w64 {n : Int} (h : -9223372036854775808 ≤ n ∧ n ≤ 9223372036854775807) : IntKind.i64.wrap n = n := IntWalk.i64_in _ h
theorem w32 {n : Int} (h : -2147483648 ≤ n ∧ n ≤ 2147483647) : IntKind.i32.wrap n = n := IntWalk.i32_in _ h
theorem w8 {n : Int} (h : 0 ≤ n ∧ n ≤ 255) : IntKind.u8.wrap n = n := IntWalk.u8_in _ h
theorem GD {b : Bool} {a : AV} (hb : Less a (.raw (.bool b))) {c : Bool} (h : b = c := by first | with_reducible assumption | with_reducible rfl | with_reducible exact Bool.not_true | with_reducible exact Bool.not_false | exact rfl) : Less a (.raw (.bool c)) := h ▸ hb
theorem WQ {k : IntKind} {m q : Int} (h : k.wrap m = q := by first | exact w64 (by omega) | exact w32 (by omega) | exact w8 (by omega)) : k.wrap m = q := h
theorem EVm {p : Prop} (h : p := by
  first
  | ((with_reducible apply ev_mv (v := .sl _ _)); exact J)
  | ((with_reducible apply ev_as (v := .sl _ _)); exact J)
  | ((with_reducible apply ev_mv (v := .tup _)); exact J)
  | ((with_reducible apply ev_as (v := .tup _)); exact J)
  | ((with_reducible apply ev_mv (v := .agg _)); exact J)
  | ((with_reducible apply ev_as (v := .agg _)); exact J)
  | ((with_reducible apply ev_mv (v := .own _ _ _)); exact J)
  | ((with_reducible apply ev_as (v := .own _ _ _)); exact J)
  | ((with_reducible apply ev_mv (v := .fn _ _ _)); exact J)
  | ((with_reducible apply ev_as (v := .fn _ _ _)); exact J)
  | ((with_reducible apply ev_mv (v := .ptr _ _)); exact J)
  | ((with_reducible apply ev_as (v := .ptr _ _)); exact J)
  | ((with_reducible apply ev_mv (v := .msl _ _ _ _)); exact J)
  | ((with_reducible apply ev_as (v := .msl _ _ _ _)); exact J)
  | ((with_reducible apply ev_mv (v := .slx _ _)); exact J)
  | ((with_reducible apply ev_as (v := .slx _ _)); exact J)
  | ((with_reducible apply ev_mv (v := .ifc _ _)); exact J)
  | ((with_reducible apply ev_as (v := .ifc _ _)); exact J)
  | ((with_reducible apply ev_mv (v := .mp _)); exact J)
  | ((with_reducible apply ev_as (v := .mp _)); exact J)) : p := h
theorem EVl {p : Prop} (h : p := by
  first
  | ((with_reducible apply ev_load); exact J; exact rfl; exact TyF.h; exact rfl)
  | ((with_reducible apply ev_fieldAddr); exact FoF.h; exact J)
  | ((with_reducible apply ev_load_agg); exact J; exact rfl; exact TyF.h; exact rfl)
  | ((with_reducible apply ev_load_i); exact J; exact TyF.h; exact rfl)
  | ((with_reducible apply ev_fieldAddr_i); exact FoF.h; exact J)
  | ((with_reducible apply ev_load_agg_i); exact J; exact TyF.h; exact Nat.le_of_ble_eq_true rfl)
  | ((with_reducible apply ev_index_map); exact SlE.h; exact J; exact J; exact rfl; omega)
  | ((with_reducible apply ev_index); exact SlE.h; exact J; exact J; exact rfl; exact rfl)
  | ((with_reducible apply ev_idxS); exact UnD.h; exact J; exact J; exact rfl; omega)
  | ((with_reducible apply ev_field); exact FoF.h; exact TyF.h; exact J; exact rfl)
  | ((with_reducible apply ev_field_agg); exact FoF.h; exact TyF.h; exact J)
  | ((with_reducible apply ev_indexv); exact ArE.h; exact TyF.h; exact J; exact J; exact rfl; omega; exact rfl)
  | ((with_reducible apply ev_indexv_agg); exact ArE.h; exact TyF.h; exact J; exact J; exact rfl; omega)
  | ((with_reducible apply ev_index_box); exact ArE.h; exact J; exact J; exact rfl; first | decide | omega)
  | ((with_reducible apply ev_index_box_i); exact ArE.h; exact J; exact J; exact rfl; first | decide | omega)) : p := h
theorem EVb {p : Prop} (h : p := by
  first
  | ((with_reducible apply ev_not); exact J)
  | ((with_reducible apply ev_neq); exact J; exact J)
  | ((with_reducible apply ev_lss); exact J; exact J)
  | ((with_reducible apply ev_eql); exact J; exact J)
  | ((with_reducible apply ev_geq); exact J; exact J)
  | ((with_reducible apply ev_leq); exact J; exact J)
  | ((with_reducible apply ev_gtr); exact J; exact J)
  | ((with_reducible apply ev_add); exact J; exact J; exact WQ)
  | ((with_reducible apply ev_sub); exact J; exact J; exact WQ)
  | ((with_reducible apply ev_mul); exact J; exact J; exact WQ)
  | ((with_reducible apply ev_neqB); exact UnD.h; exact J; exact J)
  | ((with_reducible apply ev_eqlB); exact UnD.h; exact J; exact J)
  | ((with_reducible apply ev_seqS); exact J; exact J)
  | ((with_reducible apply ev_sneS); exact J; exact J)
  | ((with_reducible apply ev_catS); exact J; exact J; (simp; omega))
  | ((with_reducible apply ev_rem); exact J; exact J; decide)
  | ((with_reducible apply ev_quo); exact J; exact J; decide; exact WQ)) : p := h
theorem EVo {p : Prop} (h : p := by
  first
  | ((with_reducible apply ev_extract); exact J; exact rfl)
  | ((with_reducible apply ev_len_map); exact SlE.h; exact J)
  | ((with_reducible apply ev_len_map); exact SlE.h; exact less_own _ _ _)
  | ((with_reducible apply ev_len); exact SlE.h; exact J; exact rfl)
  | ((with_reducible apply ev_len); exact SlE.h; exact less_own _ _ _; exact rfl)
  | ((with_reducible apply ev_len); exact SlE.h; exact less_nil _; exact rfl)
  | ((with_reducible apply ev_len_msl); exact SlE.h; exact J)
  | ((with_reducible apply ev_len); exact SlE.h; exact less_slx _ _; exact rfl)
  | ((with_reducible apply ev_lenS); exact UnD.h; exact J)
  | ((with_reducible apply ev_build); exact BdI.h; exact rfl)
  | (with_reducible apply ev_makeFunc)
  | ((with_reducible apply ev_makeIface); exact NiF.h; exact J)
  | ((with_reducible apply ev_nilCheck); exact J)
  | ((with_reducible apply ev_min2); exact J; exact J)
  | ((with_reducible apply ev_max2); exact J; exact J)
  | ((with_reducible apply ev_conv_int); exact UnD.h; exact UnD.h; exact J; exact WQ)
  | ((with_reducible apply ev_bytesS (ns := [_])); exact UnD.h; exact UnD.h; exact UnD.h; exact less_slx _ _)
  | ((with_reducible apply ev_slice); exact SlE.h; exact J; first | exact rfl | exact J; first | exact rfl | exact J; omega; omega)) : p := h
theorem EV {p : Prop} (h : p := by
  first
  | ((with_reducible apply ev_mv (v := .raw _)); exact J)
  | ((with_reducible apply ev_as (v := .raw _)); exact J)
  | ((with_reducible apply ev_pickT (v := .raw _)); exact GD J; exact J)
  | ((with_reducible apply ev_pickF (v := .raw _)); exact GD J; exact J)
  | exact EVl
  | exact EVb
  | exact EVo
  | exact EVm) : p := h
theorem LL {p : Prop} (h : p := by first | exact trivial | exact ⟨J, trivial⟩ | exact ⟨J, J, trivial⟩ | exact ⟨J, J, J, trivial⟩ | exact ⟨J, J, J, J, trivial⟩ | exact ⟨J, J, J, J, J, trivial⟩ | exact ⟨J, J, J, J, J, J, trivial⟩ | exact ⟨J, J, J, J, J, J, J, trivial⟩ | exact ⟨J, J, J, J, J, J, J, J, trivial⟩) : p := h
theorem A {p : Prop} (h : p := by exact ⟨rfl, J, LL⟩) : p := h
section seq
variable {c : Ctx} {ops : Array Oper} {Q : AExit → St → Prop} {rest : List Oper} {s : St} {i : Nat}
variable {d : Option Tmp} {op : Op} {t : TypeId} {p : String} {af : Array Edge}
theorem sn1 {j u : Nat} (hj : gslot ops j = some u) (ht : Nat.blt u c.nt = true) (hb : Less (sget s.sl u) (.raw (.bool false))) (hd : dOK c.nt d = true) (k : SeqWP c ops Q (i + 1) rest (s.put d (.raw (.tuple #[])))) :
    SeqWP c ops Q i (⟨d, op, t, p, af, some (j, true)⟩ :: rest) s := sq_no hj ht hb rfl hd k
theorem sn0 {j u : Nat} (hj : gslot ops j = some u) (ht : Nat.blt u c.nt = true) (hb : Less (sget s.sl u) (.raw (.bool true))) (hd : dOK c.nt d = true) (k : SeqWP c ops Q (i + 1) rest (s.put d (.raw (.tuple #[])))) :
    SeqWP c ops Q i (⟨d, op, t, p, af, some (j, false)⟩ :: rest) s := sq_no hj ht hb rfl hd k
theorem su {j u : Nat} {want : Bool} (hj : gslot ops j = some u) (ht : Nat.blt u c.nt = true) (hb : Less (sget s.sl u) (.raw (.tuple #[]))) (hd : dOK c.nt d = true) (k : SeqWP c ops Q (i + 1) rest (s.put d (.raw (.tuple #[])))) :
    SeqWP c ops Q i (⟨d, op, t, p, af, some (j, want)⟩ :: rest) s := sq_no hj ht hb rfl hd k
theorem cl {x : Operand} {as : Array Operand} {ats : Array TypeId} {f : FuncId} {first cap args : List AV} {res : AV} [he : EnT c.P f] (h : dOK c.nt d = true ∧ Less (s.op x) (.fn (.func f) first cap) ∧ LessL (first ++ as.toList.map s.op ++ cap) args) (hc : APure c.P f args res)
    (k : SeqWP c ops Q (i + 1) rest (s.put d res)) : SeqWP c ops Q i (⟨d, .call ⟨.value x, as, ats⟩, t, p, af, none⟩ :: rest) s := sq_ev h.1 (ev_call he.h h.2.1 hc h.2.2) k
theorem cy {j u : Nat} {want : Bool} {x : Operand} {as : Array Operand} {ats : Array TypeId} {f : FuncId} {first cap args : List AV} {res : AV} [he : EnT c.P f] (h : dOK c.nt d = true ∧ Less (s.op x) (.fn (.func f) first cap) ∧ LessL (first ++ as.toList.map s.op ++ cap) args) (hc : APure c.P f args res)
    (k : SeqWP c ops Q (i + 1) rest (s.put d res)) (hj : gslot ops j = some u := by exact rfl) (ht : Nat.blt u c.nt = true := by exact rfl) (hb : Less (sget s.sl u) (.raw (.bool want)) := by exact GD J) :
    SeqWP c ops Q i (⟨d, .call ⟨.value x, as, ats⟩, t, p, af, some (j, want)⟩ :: rest) s := sq_yes hj ht hb h.1 (ev_call he.h h.2.1 hc h.2.2) k
end seq
section cond
variable {c : Ctx} {Q : AExit → St → Prop} {s : St} {x : Operand} {y z : Code}
theorem iff {p : Prop} {_ : Decidable p} (h1 : decide p = true → p → AWP c y Q s) (h2 : decide p = false → ¬ p → AWP c z Q s) (hb : Less (s.op x) (.raw (.bool (decide p))) := by exact J) : AWP c (.cond x y z) Q s :=
  aw_cond hb (fun h => h1 h (of_decide_eq_true h)) (fun h => h2 h (of_decide_eq_false h))
theorem ifn {α : Type} {m n : α} {_ : Decidable (m ≠ n)} (h1 : decide (m ≠ n) = true → ¬ m = n → AWP c y Q s) (h2 : decide (m ≠ n) = false → m = n → AWP c z Q s) (hb : Less (s.op x) (.raw (.bool (decide (m ≠ n)))) := by exact J) : AWP c (.cond x y z) Q s :=
  aw_cond hb (fun h => h1 h (of_decide_eq_true h)) (fun h => h2 h (Classical.byContradiction (of_decide_eq_false h)))
end cond
section split
variable {c : Ctx} {ops : Array Oper} {Q : AExit → St → Prop} {s : St} {i : Nat} {l : List Oper}
end split
section draw
variable {c : Ctx} {H0 : List AObj} {ops : Array Oper} {Q : AExit → St → Prop} {m i : Nat} {s : St} {rest : List Oper}
variable {d : Option Tmp} {op : Op} {t : TypeId} {p : String} {af : Array Edge}
theorem dn0 {j u : Nat} (hj : gslot ops j = some u) (ht : Nat.blt u c.nt = true) (hb : Less (sget s.sl u) (.raw (.bool true))) (hd : dOK c.nt d = true) (k : DR c H0 ops Q m (i + 1) rest (s.put d (.raw (.tuple #[])))) :
    DR c H0 ops Q m i (⟨d, op, t, p, af, some (j, false)⟩ :: rest) s := dr_no hj ht hb rfl hd k
theorem dcl {x : Operand} {as : Array Operand} {ats : Array TypeId} {f : FuncId} {first cap args : List AV} {res : AV} [he : EnT c.P f] (h : dOK c.nt d = true ∧ Less (s.op x) (.fn (.func f) first cap) ∧ LessL (first ++ as.toList.map s.op ++ cap) args) (hc : APure c.P f args res)
    (k : DR c H0 ops Q m (i + 1) rest (s.put d res)) : DR c H0 ops Q m i (⟨d, .call ⟨.value x, as, ats⟩, t, p, af, none⟩ :: rest) s := dr_ev h.1 (ev_call he.h h.2.1 hc h.2.2) k
theorem dcy {j u : Nat} {want : Bool} {x : Operand} {as : Array Operand} {ats : Array TypeId} {f : FuncId} {first cap args : List AV} {res : AV} [he : EnT c.P f] (h : dOK c.nt d = true ∧ Less (s.op x) (.fn (.func f) first cap) ∧ LessL (first ++ as.toList.map s.op ++ cap) args) (hc : APure c.P f args res)
    (k : DR c H0 ops Q m (i + 1) rest (s.put d res)) (hj : gslot ops j = some u := by exact rfl) (ht : Nat.blt u c.nt = true := by exact rfl) (hb : Less (sget s.sl u) (.raw (.bool want)) := by exact GD J) :
    DR c H0 ops Q m i (⟨d, .call ⟨.value x, as, ats⟩, t, p, af, some (j, want)⟩ :: rest) s := dr_yes hj ht hb h.1 (ev_call he.h h.2.1 hc h.2.2) k
end draw
section ex
variable {c : Ctx} {Q : AExit → St → Prop} {K : St → Prop} {s : St} {id j : Nat}
theorem xn (h : K s) : AExit.then K Q .normal s := h
theorem xe (h : Q (.exit j) s) : AExit.then K Q (.exit j) s := h
theorem xr (h : Q .ret s) : AExit.then K Q .ret s := h
theorem bn (h : Q .normal s) : AExit.inBlock id Q .normal s := h
theorem be (h : Q .normal s) : AExit.inBlock id Q (.exit id) s := by simp only [AExit.inBlock]; rw [show Nat.beq id id = true from Nat.beq_refl id]; exact h
theorem br (h : Q .ret s) : AExit.inBlock id Q .ret s := h
end ex
section app
variable {c : Ctx} {ops : Array Oper} {Q : AExit → St → Prop} {s : St} {i : Nat} {o : Oper} {l m : List Oper} {H0 : List AObj} {k : Nat}
end app
structure Cnt (n : Nat) : Prop where
theorem Cnt.pred {n : Nat} (_ : Cnt (n + 1)) : Cnt n := ⟨⟩
theorem V (n : Nat) {p q : Prop} (k : q) (h : Cnt n → (Unit → q) → p := by
  intro hc hk
  repeat (
    replace hc := Cnt.pred hc
    repeat (with_reducible (first | refine xn ?_ | refine sa ?_ | refine sa0 ?_ | refine aw_seq ?_ | refine aw_region ?_ | refine sq_nil ?_ | refine aw_skip ?_ | refine aw_block ?_ | refine bn ?_ | refine aw_exit ?_ | refine xe ?_ | refine be ?_ | refine bo ?_ | refine gn ?_ | refine ge ?_ | refine xr ?_ | refine br ?_ | refine gr ?_ | refine aw_label ?_ | refine aw_scope ?_))
    first
    | ((with_reducible apply sq_ev); exact rfl; exact EV)
    | ((with_reducible apply sn1); exact rfl; exact rfl; exact GD J; exact rfl)
    | ((with_reducible apply sn0); exact rfl; exact rfl; exact GD J; exact rfl)
    | ((with_reducible apply sq_yes); exact rfl; exact rfl; exact GD J; exact rfl; exact EV)
    | ((with_reducible apply su); exact rfl; exact rfl; exact J; exact rfl)
    | ((with_reducible apply sq_box); exact rfl; exact J; exact rfl)
    | ((with_reducible apply sq_alloc); exact rfl; exact ZeO.h)
    | ((with_reducible apply sq_store); exact rfl; exact J; exact J; exact rfl; exact rfl; exact TyF.h; exact rfl; exact rfl)
    | ((with_reducible refine aw_true ?_ ?_); exact GD J)
    | ((with_reducible refine aw_false ?_ ?_); exact GD J))
  exact hk ()) : p := h ⟨⟩ fun _ => k
theorem W (n : Nat) {p q : Prop} (k : q) (h : Cnt n → (Unit → q) → p := by
  intro hc hk
  repeat (
    replace hc := Cnt.pred hc
    repeat (with_reducible (first | refine xn ?_ | refine sa ?_ | refine sa0 ?_ | refine aw_seq ?_ | refine aw_region ?_ | refine sq_nil ?_ | refine aw_skip ?_ | refine aw_block ?_ | refine bn ?_ | refine aw_exit ?_ | refine xe ?_ | refine be ?_ | refine bo ?_ | refine gn ?_ | refine ge ?_ | refine xr ?_ | refine br ?_ | refine gr ?_ | refine aw_label ?_ | refine aw_scope ?_))
    first
    | ((with_reducible apply sq_ev); exact rfl; exact EV)
    | ((with_reducible apply sn1); exact rfl; exact rfl; exact GD J; exact rfl)
    | ((with_reducible apply sn0); exact rfl; exact rfl; exact GD J; exact rfl)
    | ((with_reducible apply sq_yes); exact rfl; exact rfl; exact GD J; exact rfl; exact EV)
    | ((with_reducible apply su); exact rfl; exact rfl; exact J; exact rfl)
    | ((with_reducible apply sq_box); exact rfl; exact J; exact rfl)
    | ((with_reducible apply sq_alloc); exact rfl; exact ZeO.h)
    | ((with_reducible apply sq_store); exact rfl; exact J; exact J; exact rfl; exact rfl; exact TyF.h; exact rfl; exact rfl)
    | ((with_reducible refine aw_true ?_ ?_); exact GD J)
    | ((with_reducible refine aw_false ?_ ?_); exact GD J))
  repeat (with_reducible (first | refine xn ?_ | refine sa ?_ | refine sa0 ?_ | refine aw_seq ?_ | refine aw_region ?_ | refine sq_nil ?_ | refine aw_skip ?_ | refine aw_block ?_ | refine bn ?_ | refine aw_exit ?_ | refine xe ?_ | refine be ?_ | refine bo ?_ | refine gn ?_ | refine ge ?_ | refine xr ?_ | refine br ?_ | refine gr ?_ | refine aw_label ?_ | refine aw_scope ?_ | refine aw_ret ?_))
  exact hk ()) : p := h ⟨⟩ fun _ => k
theorem WD (n : Nat) {p q : Prop} (k : q) (h : Cnt n → (Unit → q) → p := by
  intro hc hk
  repeat (
    replace hc := Cnt.pred hc
    repeat (with_reducible (first | refine da ?_ | refine da0 ?_))
    first
    | ((with_reducible apply dr_ev); exact rfl; exact EV)
    | ((with_reducible apply dn1); exact rfl; exact rfl; exact GD J; exact rfl)
    | ((with_reducible apply dn0); exact rfl; exact rfl; exact GD J; exact rfl)
    | ((with_reducible apply dr_yes); exact rfl; exact rfl; exact GD J; exact rfl; exact EV)
    | ((with_reducible apply du); exact rfl; exact rfl; exact J; exact rfl))
  try refine dr_end ?_
  exact hk ()) : p := h ⟨⟩ fun _ => k
end Go.Ab
