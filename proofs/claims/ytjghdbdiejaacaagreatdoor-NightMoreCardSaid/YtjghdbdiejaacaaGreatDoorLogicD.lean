/-
  A part of the proof: conditions: none beyond each theorem's own.
-/
import Derived.Test.YtjghdbdiejaacaaGreatDoorLogicC
import Derived.Laws.RangeAny
import Derived.Laws.BytesArg
import Derived.Laws.Concat
import Derived.Sort.Grow
import Derived.Deep.Draws
import Derived.Lib.SplitLaws
import Derived.Laws.Small
import Derived.Laws.MakeOwn
import Derived.Deep.Slices
import Derived.OpenShut
import Derived.Carry
set_option linter.all false
namespace Go.Ab
variable [Tabs]

theorem retQ_any {P : Program} {rs : List ResultVar} {R : ARes → List AObj → Prop} {vs : List AV} {s : St} (hd : s.df = []) (hlen : Nat.ble rs.length 3 = true) (hv : ResL P s rs vs) (hR : R (.ret (resTup vs)) s.H) :
    retQ P rs R .ret s := ⟨hd, _, resAV_of (Nat.le_of_ble_eq_true hlen) hv, hR⟩
theorem retQM_any {P : Program} {rs : List ResultVar} {R : ARes → List AObj → Prop} {vs : List AV} {s : St} {H' : List AObj} (hm : takeMarks s.H s.df = some H') (hlen : Nat.ble rs.length 3 = true) (hv : ResL P { s with H := H' } rs vs) (hR : R (.ret (resTup vs)) H') :
    retQM P rs R .ret s := ⟨H', _, hm, resAV_of (Nat.le_of_ble_eq_true hlen) hv, hR⟩

/-- a contract of a function that computes, or gives up, and changes no objects -/
def APan (P : Program) (f : FuncId) (args : List AV) (R : ARes → Prop) : Prop := ∀ H, ACall P f args H fun x H' => H' = H ∧ R x

def ARes.pureB : ARes → Bool
  | .ret v => v.pureB
  | .pan v => v.pureB

theorem APan.of_acall {P : Program} {f : FuncId} {args : List AV} {R : ARes → Prop} (hp : AV.pureL args = true)
    (h : ACall P f args [] fun x _ => ∃ y, R y ∧ y.pureB = true ∧ (match x, y with | .ret v, .ret u => Less v u | .pan v, .pan u => Less v u | _, _ => False)) : APan P f args R := by
  intro H e vs ok hH hs
  have ok0 : EnvOK ⟨[], fun _ => none, e.G, e.w⟩ := ⟨ok.fresh, fun i o h => by simp at h, fun i j b hi => by simp at hi, fun i b hi => by simp at hi, ok.tabs.sub rfl fun i b hi => by simp at hi⟩
  refine (h ⟨[], fun _ => none, e.G, e.w⟩ vs ok0 rfl (RepL.pure (e := e) (e' := ⟨[], fun _ => none, e.G, e.w⟩) rfl rfl args hp hs)).mono ?_
  rintro x w' ⟨ax, e1, rfl, ok1, fr, ⟨y, hR, hy, hm⟩, hend⟩
  have hx : Ext e ⟨e.H, e.μ, e1.G, e1.w⟩ := ⟨rfl, fun _ _ => rfl, fr.size, fr.still, fun b hb => (fr.heap b hb (fun i hi => by simp at hi)).1, fun b hb => (fr.heap b hb (fun i hi => by simp at hi)).2, ok1.fresh⟩
  refine ⟨y, ⟨e.H, e.μ, e1.G, e1.w⟩, rfl, ok.ext hx, (Fr.refl e).ext ok hx, ⟨hH, hR⟩, ?_⟩
  cases ax with
  | ret v =>
    cases y with
    | ret u => obtain ⟨z, rfl, hz⟩ := hend; exact ⟨z, rfl, Rep.pure (e := e1) (e' := ⟨e.H, e.μ, e1.G, e1.w⟩) rfl rfl u hy (hm _ _ hz)⟩
    | pan u => exact hm.elim
  | pan v =>
    cases y with
    | ret u => exact hm.elim
    | pan u => obtain ⟨z, rfl, hz⟩ := hend; exact ⟨z, rfl, Rep.pure (e := e1) (e' := ⟨e.H, e.μ, e1.G, e1.w⟩) rfl rfl u hy (hm _ _ hz)⟩

/-- where it does not give up, it only computes -/
theorem APan.pure {P : Program} {f : FuncId} {args : List AV} {R : ARes → Prop} {res : AV} (h : APan P f args R) (hp : AV.pureL args = true) (hr : res.pureB = true) (hR : ∀ x, R x → ∃ v, x = .ret v ∧ Less v res) : APure P f args res :=
  APure.of_acall hp hr fun e vs ok hH hs => (h [] e vs ok hH hs).mono fun _ _ ⟨ax, e', h1, h2, h3, ⟨_, h5⟩, h6⟩ => ⟨ax, e', h1, h2, h3, hR _ h5, h6⟩

theorem APan.less {P : Program} {f : FuncId} {args : List AV} {R R' : ARes → Prop} (h : APan P f args R) (k : ∀ x, R x → R' x) : APan P f args R' :=
  fun H e vs ok hH hs => (h H e vs ok hH hs).mono fun _ _ ⟨ax, e', h1, h2, h3, h5, h6⟩ => ⟨ax, e', h1, h2, h3, ⟨h5.1, k _ h5.2⟩, h6⟩
theorem APan.of_pure {P : Program} {f : FuncId} {args : List AV} {res : AV} (h : APure P f args res) : APan P f args fun x => x = .ret res :=
  fun H e vs ok hH hs => (h e vs ok hs).mono fun _ _ ⟨u, e', h1, h2, h3, h4⟩ => ⟨.ret res, e', h2, ok.ext h3, (Fr.refl e).ext ok h3, ⟨h3.H.trans hH, rfl⟩, u, h1, h4⟩

/-! ### Maps that are sets -/
def keysIn (l : List Int) : List Int := l.foldl (fun acc n => if n ∈ acc then acc else acc ++ [n]) []
theorem keysIn_snoc (l : List Int) (n : Int) : keysIn (l ++ [n]) = if n ∈ keysIn l then keysIn l else keysIn l ++ [n] := by
  unfold keysIn; rw [List.foldl_append]; rfl
theorem keysIn_aux : ∀ (l acc : List Int), acc.Nodup → (l.foldl (fun acc n => if n ∈ acc then acc else acc ++ [n]) acc).Nodup ∧ ∀ n, n ∈ l.foldl (fun acc n => if n ∈ acc then acc else acc ++ [n]) acc ↔ n ∈ acc ∨ n ∈ l
  | [], acc, h => ⟨h, fun n => by simp⟩
  | x :: l, acc, h => by
    simp only [List.foldl_cons]
    by_cases hx : x ∈ acc
    · rw [if_pos hx]
      obtain ⟨h1, h2⟩ := keysIn_aux l acc h
      refine ⟨h1, fun n => ?_⟩
      rw [h2, List.mem_cons]
      constructor
      · rintro (k | k)
        · exact .inl k
        · exact .inr (.inr k)
      · rintro (k | k | k)
        · exact .inl k
        · exact .inl (k ▸ hx)
        · exact .inr k
    · rw [if_neg hx]
      obtain ⟨h1, h2⟩ := keysIn_aux l (acc ++ [x]) (by
        rw [List.nodup_append]; refine ⟨h, by simp, fun a ha b hb => ?_⟩
        simp at hb; subst hb; exact fun e => hx (e ▸ ha))
      exact ⟨h1, fun n => by rw [h2]; simp [or_assoc]⟩
theorem keysIn_nodup (l : List Int) : (keysIn l).Nodup := (keysIn_aux l [] (by simp)).1
theorem mem_keysIn {l : List Int} {n : Int} : n ∈ keysIn l ↔ n ∈ l := by have := (keysIn_aux l [] (by simp)).2 n; simpa [keysIn] using this
def setM (l : List Int) : List (Int × Value) := (keysIn l).map fun k => (k, .agg #[])
theorem setM_put (l : List Int) (n : Int) : mapPut (setM l) n (.agg #[]) = setM (l ++ [n]) := by
  unfold setM; rw [mapPut_keys, keysIn_snoc]
theorem setM_nodup (l : List Int) : ((setM l).map (·.1)).Nodup := by
  have : (setM l).map (·.1) = keysIn l := by simp [setM, List.map_map, Function.comp_def]
  rw [this]; exact keysIn_nodup l
theorem setM_any (l : List Int) (n : Int) : (setM l).any (fun x => decide (x.1 = n)) = decide (n ∈ l) := by
  rw [Bool.eq_iff_iff]; simp [setM, List.any_eq_true, mem_keysIn]
theorem less_unit : Less (.agg []) (.raw (.agg #[])) := less_agg_raw (vs := []) rfl

section set
variable {P : Program} {r : Option Nat} {H : List AObj} {ρ : Operand → AV}
variable {d : Option Tmp} {t : TypeId} {p : String} {af : Array Edge} {g : Option (Nat × Bool)} {x y : Operand}
/-- _, is = set[k] -/
theorem ev_lookup_set {mt kt et : TypeId} {j : Nat} {l : List Int} {n : Int} (hmt : mapTy P mt = some (kt, et)) (hkt : isIntT P kt = true) (hz : zeroOf P et = some [])
    (hx : Less (ρ x) (.mp j)) (hy : Less (ρ y) (.raw (.int .i64 n))) (hj : H[j]? = some (.map (imap (setM l)))) : Ev P r ⟨d, .lookup mt x y true, t, p, af, g⟩ H ρ (.tup [.agg [], .raw (.bool (decide (n ∈ l)))]) :=
  Ev.pure (by intro c h; cases h) fun e ρc ok hE hs => by
    have hxr := hx e _ (hs x (by simp [Op.operands]))
    rw [Rep] at hxr
    obtain ⟨h1, h2, b, hb, hxv⟩ := hxr
    have hyv := rep_raw hy (hs y (by simp [Op.operands]))
    obtain ⟨b', ents, cl, hb', hh, hents⟩ := ok.objs j _ (hE j _ hj (fun n e => by cases e))
    rw [hb] at hb'; cases hb'
    have hgo : (getObj b).run P e.w = .ok (.map ents cl) e.w := by simp [getObj, Sem.run, hh]
    have hfk := run_findKey (P := P) (w := e.w) hkt (n := n) hents
    obtain ⟨z0, hz0, hzc, _⟩ := zeroOf_run hz
    have hz1 : z0 = .agg #[] := by
      have : z0.cells.toList = [] := by simpa using hzc.symm
      cases z0 <;> simp [Value.cells] at this
      rw [this]
    have hunit : Rep e (.agg []) (.agg #[]) := by rw [Rep]; exact ⟨#[], rfl, RepL.nil, by simp⟩
    rw [← setM_any]
    cases hf : (setM l).findIdx? (fun x => decide (x.1 = n)) with
    | none =>
      rw [hf] at hfk
      have hany : (setM l).any (fun x => decide (x.1 = n)) = false := by
        rw [List.findIdx?_eq_none_iff] at hf
        rw [List.any_eq_false]; intro y hy; simpa using hf y hy
      refine ⟨.tuple #[z0, .bool false], ?_, ?_⟩
      · simp [execOp, Instr.lookup, hxv, hyv, run_und (mapTy_eq hmt), hgo, run_checkKey hkt, hfk, hz0]
      · rw [hany, Rep, hz1]; exact ⟨_, rfl, RepL.cons hunit (RepL.cons (by rw [Rep]) RepL.nil)⟩
    | some q =>
      rw [hf] at hfk
      have hf' := hf
      rw [List.findIdx?_eq_some_iff_getElem] at hf
      obtain ⟨hql, hqn, _⟩ := hf
      have hany : (setM l).any (fun x => decide (x.1 = n)) = true := by
        rw [List.any_eq_true]; exact ⟨(setM l)[q], List.getElem_mem hql, hqn⟩
      have hv : ((setM l).getD q default).2 = .agg #[] := by
        rw [List.getD_eq_getElem?_getD, List.getElem?_eq_getElem hql]
        have : (setM l)[q] ∈ setM l := List.getElem_mem hql
        obtain ⟨k, _, hk⟩ := List.mem_map.1 this
        simp [← hk]
      refine ⟨.tuple #[((setM l).getD q default).2, .bool true], ?_, ?_⟩
      · simp [execOp, Instr.lookup, hxv, hyv, run_und (mapTy_eq hmt), hgo, run_checkKey hkt, hfk]
      · rw [hany, Rep, hv]; exact ⟨_, rfl, RepL.cons hunit (RepL.cons (by rw [Rep]) RepL.nil)⟩
end set
end Go.Ab

namespace Go.Ab
variable [Tabs]

theorem lookP {H0 X : List AObj} {m : Nat} {o : AObj} (h : X[m]? = some o) : (H0 ++ X)[H0.length + m]? = some o := by
  rw [List.getElem?_append_right (by omega), Nat.add_sub_cancel_left]; exact h
theorem lookL {H0 X : List AObj} {m : Nat} {o : AObj} (h : H0[m]? = some o) : (H0 ++ X)[m]? = some o := by
  rw [List.getElem?_append_left (lt_of_get? h)]; exact h
theorem setP {H0 X : List AObj} {m : Nat} {o : AObj} : (H0 ++ X).set (H0.length + m) o = H0 ++ X.set m o := by
  rw [List.set_append_right _ _ (by omega), Nat.add_sub_cancel_left]
theorem setL {H0 X : List AObj} {m : Nat} {o : AObj} (h : m < H0.length) : (H0 ++ X).set m o = H0.set m o ++ X := by
  rw [List.set_append_left _ _ h]

section seq
variable {c : Ctx} {ops : Array Oper} {Q : AExit → St → Prop} {rest : List Oper} {i : Nat} {H0 X : List AObj} {sl : List (Nat × AV)} {df : List ADef}
variable {d : Option Tmp} {t : TypeId} {p : String} {af : Array Edge}

theorem sq_allocP {bt : TypeId} {l : List AV} (hd : dOK c.nt d = true) (hz : zeroOf c.P bt = some l)
    (k : SeqWP c ops Q (i + 1) rest (St.put ⟨sl, H0 ++ (X ++ [.cells l]), df⟩ d (.ptr (H0.length + X.length) 0))) : SeqWP c ops Q i (⟨d, .alloc bt, t, p, af, none⟩ :: rest) ⟨sl, H0 ++ X, df⟩ := by
  refine sq_alloc hd hz ?_
  simp only [List.append_assoc, List.length_append]; exact k
theorem sq_boxP {bt : TypeId} {x : Operand} {a : AV} {l : List AV} (hd : dOK c.nt d = true) (hx : Less ((⟨sl, H0 ++ X, df⟩ : St).op x) a) (hl : a.cells = some l)
    (k : SeqWP c ops Q (i + 1) rest (St.put ⟨sl, H0 ++ (X ++ [.cells l]), df⟩ d (.ptr (H0.length + X.length) 0))) : SeqWP c ops Q i (⟨d, .box bt x, t, p, af, none⟩ :: rest) ⟨sl, H0 ++ X, df⟩ := by
  refine sq_box hd hx hl ?_
  simp only [List.append_assoc, List.length_append]; exact k
theorem sq_storeP {st : TypeId} {x y : Operand} {a : AV} {j off n : Nat} {bb : Bool} {l m : List AV} (hd : dOK c.nt d = true)
    (hx : Less ((⟨sl, H0 ++ X, df⟩ : St).op x) (.ptr (H0.length + j) off)) (hy : Less ((⟨sl, H0 ++ X, df⟩ : St).op y) a) (hm : a.cells = some m) (hj : X[j]? = some (.cells l)) (ht : tySz c.P st = some (bb, n)) (hn : Nat.beq m.length n = true) (hle : Nat.ble (off + n) l.length = true)
    (k : SeqWP c ops Q (i + 1) rest (St.put ⟨sl, H0 ++ X.set j (.cells (l.take off ++ m ++ l.drop (off + m.length))), df⟩ d .any)) : SeqWP c ops Q i (⟨d, .store st x y, t, p, af, none⟩ :: rest) ⟨sl, H0 ++ X, df⟩ := by
  refine sq_store hd hx hy hm (lookP hj) ht hn hle ?_
  simp only [setP]; exact k
theorem sq_storeL {st : TypeId} {x y : Operand} {a : AV} {j off n : Nat} {bb : Bool} {l m : List AV} (hd : dOK c.nt d = true)
    (hx : Less ((⟨sl, H0 ++ X, df⟩ : St).op x) (.ptr j off)) (hy : Less ((⟨sl, H0 ++ X, df⟩ : St).op y) a) (hm : a.cells = some m) (hj : H0[j]? = some (.cells l)) (ht : tySz c.P st = some (bb, n)) (hn : Nat.beq m.length n = true) (hle : Nat.ble (off + n) l.length = true)
    (k : SeqWP c ops Q (i + 1) rest (St.put ⟨sl, H0.set j (.cells (l.take off ++ m ++ l.drop (off + m.length))) ++ X, df⟩ d .any)) : SeqWP c ops Q i (⟨d, .store st x y, t, p, af, none⟩ :: rest) ⟨sl, H0 ++ X, df⟩ := by
  refine sq_store hd hx hy hm (lookL hj) ht hn hle ?_
  simp only [setL (lt_of_get? hj)]; exact k
end seq

section ev
variable {P : Program} {r : Option Nat} {H : List AObj} {ρ : Operand → AV}
variable {d : Option Tmp} {t : TypeId} {p : String} {af : Array Edge} {g : Option (Nat × Bool)} {x y : Operand}
theorem ev_nil_nil {xt yt : TypeId} (hu : P.underlying xt = some (.interface #[])) (hx : Less (ρ x) (.raw .nilIface)) (hy : Less (ρ y) (.raw .nilIface)) :
    Ev P r ⟨d, .binOp .eql xt x y yt, t, p, af, g⟩ H ρ (.raw (.bool true)) :=
  Ev.pure (by intro c h; cases h) fun e ρc ok hE hs => by
    have h1 := rep_raw hx (hs x (by simp [Op.operands]))
    have h3 := rep_raw hy (hs y (by simp [Op.operands]))
    refine ⟨.bool true, ?_, by rw [Rep]⟩
    have he : (Op.equal xt .nilIface .nilIface).run P e.w = .ok true e.w := by
      show (Op.equalIn (9999 + 1) xt .nilIface .nilIface).run P e.w = _
      rw [Op.equalIn]; simp [run_und hu]
    have hg0 : (Op.eqGuardIn Op.maxDepth xt .nilIface .nilIface).run P e.w = .ok false e.w := by
      show (Op.eqGuardIn (9999 + 1) xt .nilIface .nilIface).run P e.w = _
      rw [Op.eqGuardIn]; simp [run_und hu]
    have hg : (eqGuard .eql xt x y .nilIface .nilIface).run P e.w = .ok () e.w := by
      simp only [eqGuard]
      cases x <;> cases y <;> simp [hg0]
    have hb : (binOp .eql xt .nilIface .nilIface).run P e.w = .ok (.bool true) e.w := by
      show (do pure (.bool (← Op.equal xt .nilIface .nilIface)) : Sem Value).run P e.w = _
      simp [he]
    simp only [execOp, h1, h3]
    simp [hg, hb]
end ev

/-- a slice that is not empty, held against nil -/
theorem ev_sl_nil_ne {P : Program} {r : Option Nat} {H : List AObj} {ρ : Operand → AV} {d : Option Tmp} {t : TypeId} {p : String} {af : Array Edge} {g : Option (Nat × Bool)} {x y : Operand} {xt yt et : TypeId} {sz : Nat} {es : List (List AV)} (ht : slElem P xt = some (et, sz))
    (hx : Less (ρ x) (.sl sz es)) (hne : 0 < es.length) (hy : Less (ρ y) (.raw (.slice none 0 0))) : Ev P r ⟨d, .binOp .eql xt x y yt, t, p, af, g⟩ H ρ (.raw (.bool false)) :=
  Ev.pure (by intro c h; cases h) fun e ρc ok hE hs => by
    obtain ⟨h1, _⟩ := slElem_und ht
    have hv := hx e _ (hs x (by simp [Op.operands]))
    rw [Rep] at hv
    obtain ⟨a, len, cap, hv, hlen, hle, hnil, _⟩ := hv
    obtain ⟨ad, rfl⟩ : ∃ ad, a = some ad := by
      cases a with
      | none => have := hnil rfl; omega
      | some ad => exact ⟨ad, rfl⟩
    have hw := rep_raw hy (hs y (by simp [Op.operands]))
    refine ⟨.bool false, ?_, by rw [Rep]⟩
    have he : (Op.equal xt (.slice (some ad) len cap) (.slice none 0 0)).run P e.w = .ok false e.w := by
      show (Op.equalIn (9999 + 1) xt _ _).run P e.w = _
      rw [Op.equalIn]; simp [run_und h1]
    have hg : (eqGuard .eql xt x y (.slice (some ad) len cap) (.slice none 0 0)).run P e.w = .ok () e.w := by simp [eqGuard]
    have hb : (binOp .eql xt (.slice (some ad) len cap) (.slice none 0 0)).run P e.w = .ok (.bool false) e.w := by
      show (do pure (.bool (← Op.equal xt (.slice (some ad) len cap) (.slice none 0 0))) : Sem Value).run P e.w = _
      simp [he]
    simp only [execOp, hv, hw]
    simp [hg, hb]

/-- a range over a function whose loop variable is a plain one -/
theorem aw_rangeFunc1 {c : Ctx} {Q : AExit → St → Prop} {s : St} {g : Operand} {p q id : Nat} {ty : TypeId} {pos : String} {af : Array Edge} {body : Code} {f : FuncId} {first caps xs : List AV} (T : Nat → List AObj) (m : Nat) (jump : Option Code)
    (hm : m ≤ xs.length) (hj : jump = none → m = xs.length) (hj' : jump ≠ none → 0 < m) (hjo : jumpOK jump = true) (hr : c.r = none) (hg : Less (s.op g) (.fn (.func f) first caps)) (he : Ent c.P f) (hit : AIter c.P f first caps xs)
    (hT0 : T 0 = s.H) (hlen : ∀ i, (T i).length = s.H.length) (hin : ∀ i, i ≤ m → objsIn s.H.length (T i) = true) (hpx : ∀ x ∈ xs, x.pureB = true) (hp : Nat.blt p c.nt = true) (hq : Nat.blt q c.nt = true)
    (hb : ∀ l i x e0, i < m → xs[i]? = some x → e0.H = T i → AWP ⟨c.P, some l, c.nt, e0⟩ body (fun ax s' => (∃ Y, s'.H = T (i + 1) ++ Y) ∧ s'.df = [] ∧ jumpEx (if i + 1 = m then jump else none) ax) ⟨(q, x) :: (p, x) :: s.sl, T i, []⟩)
    (k : ∀ ax, jumpEx jump ax → Q ax ⟨s.sl, T m ++ [.raw (.deferred (some []))], .mark s.H.length :: s.df⟩) :
    AWP c (.rangeFunc g #[p] (.region id [⟨some q, .assign (.tmp p), ty, pos, af, none⟩].toArray false) body) Q s :=
  aw_rangeFunc T m jump (fun _ x => (q, x) :: (p, x) :: s.sl) hm hj hj' hjo hr hg he hit hT0 hlen hin hpx hp
    (fun l i x e0 hi hx he0 => by
      refine aw_region ?_
      refine sq_ev hq (ev_as (v := x) (Less.eq (by simp [St.op, sget]))) ?_
      refine sq_nil ?_
      exact ⟨rfl, rfl⟩) hb k

/-- what an object's cells stand for, said otherwise -/
theorem sub_recell {c : Ctx} {s : St} {b : Nat} {l l' : List AV} (hb : s.H[b]? = some (.cells l)) (h : ∀ e a, Sim c s e a → ∀ vs, RepL e l vs → RepL e l' vs) : Sub c s { s with H := s.H.set b (.cells l') } := by
  intro e a hs
  have hbe : e.H[b]? = some (.cells l) := by rw [hs.H]; exact hb
  have hbl := lt_of_get? hbe
  obtain ⟨e', he'⟩ : ∃ e' : Env, e' = { e with H := e.H.set b (.cells l') } := ⟨_, rfl⟩
  have hT : ∀ i, e'.T i = e.T i := fun i => by
    rw [he']; unfold Env.T; simp only
    by_cases hi : b = i
    · subst hi; rw [List.getElem?_set_self hbl, hbe]; rfl
    · rw [List.getElem?_set_ne hi]
  have le : e.Le e' := ⟨by rw [he']; simp, fun i hi ht => ⟨by rw [hT]; exact ht, fun q hq => by rw [he']; exact hq⟩, fun q off ho => by rw [he']; exact ⟨ho, rfl⟩, fun i m ht => ⟨m, by rw [hT]; exact ht, Nat.le_refl _, fun _ => ⟨by rw [he'], fun q cs t _ hh => by rw [he']; exact ⟨rfl, cs, hh, rfl⟩⟩⟩⟩
  refine ⟨e', by rw [he'], hs.size, fun t => Rep.mono le _ (hs.slots t), hs.defers.mono le, by rw [he', hs.H], ⟨by rw [he']; exact hs.ok.fresh, fun i o ho => ?_, fun i j q hi hj => ?_, fun i q hi => ?_, hs.ok.tabs.sub (by rw [he']) fun i q hi h1 => ⟨i, by rw [he'] at hi; simpa using hi, by rw [he'] at h1; exact h1⟩⟩, ⟨by rw [he']; exact hs.fr.size, by rw [he']; exact hs.fr.still, by rw [he']; exact hs.fr.heap, fun i q hi => ?_, hs.fr.le.trans le⟩⟩
  · by_cases hi : b = i
    · subst hi
      rw [he'] at ho; simp only [List.getElem?_set_self hbl, Option.some.injEq] at ho; subst ho
      obtain ⟨q, cs, t, k1, k2, k3, k4, k5⟩ := hs.ok.objs b _ hbe
      exact ⟨q, cs, t, by rw [he']; exact k1, by rw [he']; exact k2, by rw [he']; exact k3, RepL.mono le _ (h e a hs _ k4), k5⟩
    · have ho' : e.H[i]? = some o := by rw [he'] at ho; simpa [List.getElem?_set_ne hi] using ho
      exact ObjSim.mono le (hs.ok.objs i o ho') (by rw [he']) (fun _ _ => by rw [he']; exact ⟨rfl, rfl⟩)
  · rw [he'] at hi hj ⊢; exact hs.ok.inj i j q (by simpa using hi) (by simpa using hj)
  · rw [he'] at hi ⊢; exact hs.ok.live i q (by simpa using hi)
  · rw [he'] at hi ⊢; exact hs.fr.objs i q (by simpa using hi)

/-- a box that holds nil: a slice of its own, to grow -/
theorem sub_token_box {c : Ctx} {s : St} (b sz : Nat) (hb : s.H[b]? = some (.cells [.raw (.slice none 0 0)])) : Sub c s { s with H := s.H.set b (.cells [.own s.H.length sz []]) ++ [.tok 0] } := by
  have h1 : Sub c s { s with H := s.H ++ [.tok 0] } := fun e a hs => by
    obtain ⟨e', k1, _, _, _, _, k2⟩ := sim_tok hs 0; exact ⟨e', k1, k2⟩
  have hl := lt_of_get? hb
  have h2 : Sub c { s with H := s.H ++ [.tok 0] } { s with H := (s.H ++ [AObj.tok 0]).set b (.cells [.own s.H.length sz []]) } :=
    sub_recell (s := { s with H := s.H ++ [AObj.tok 0] }) (l := [.raw (.slice none 0 0)]) (l' := [.own s.H.length sz []]) (by rw [List.getElem?_append_left hl]; exact hb) fun e a hs vs hv => by
      rw [RepL] at hv ⊢
      obtain ⟨v, rest, h1, h2, h3⟩ := hv
      refine ⟨v, rest, h1, ?_, h3⟩
      rw [Rep] at h2
      rw [Rep, h2]
      exact ⟨none, 0, 0, rfl, rfl, Nat.le_refl _, fun _ => rfl, by simp, fun ad h => (by cases h), by rw [hs.H]; simp, ⟨0, by unfold Env.T; rw [hs.H]; simp [tokOf], Nat.le_refl _⟩, fun _ ad h => (by cases h)⟩
  have h3 := h1.trans h2
  rwa [List.set_append_left _ _ hl] at h3

/-- nil held against nil -/
theorem ev_slnil {P : Program} {r : Option Nat} {H : List AObj} {ρ : Operand → AV} {d : Option Tmp} {t : TypeId} {p : String} {af : Array Edge} {g : Option (Nat × Bool)} {x y : Operand} {xt yt et : TypeId} {sz : Nat} (ht : slElem P xt = some (et, sz))
    (hx : Less (ρ x) (.raw (.slice none 0 0))) (hy : Less (ρ y) (.raw (.slice none 0 0))) : Ev P r ⟨d, .binOp .eql xt x y yt, t, p, af, g⟩ H ρ (.raw (.bool true)) :=
  Ev.pure (by intro c h; cases h) fun e ρc ok hE hs => by
    obtain ⟨h1, _⟩ := slElem_und ht
    have hv := rep_raw hx (hs x (by simp [Op.operands]))
    have hw := rep_raw hy (hs y (by simp [Op.operands]))
    refine ⟨.bool true, ?_, by rw [Rep]⟩
    have he : (Op.equal xt (.slice none 0 0) (.slice none 0 0)).run P e.w = .ok true e.w := by
      show (Op.equalIn (9999 + 1) xt _ _).run P e.w = _
      rw [Op.equalIn]; simp [run_und h1]
    have hg : (eqGuard .eql xt x y (.slice none 0 0) (.slice none 0 0)).run P e.w = .ok () e.w := by simp [eqGuard]
    have hb : (binOp .eql xt (.slice none 0 0) (.slice none 0 0)).run P e.w = .ok (.bool true) e.w := by
      show (do pure (.bool (← Op.equal xt (.slice none 0 0) (.slice none 0 0))) : Sem Value).run P e.w = _
      simp [he]
    simp only [execOp, hv, hw]
    simp [hg, hb]

/-- no objects yet -/
theorem nil_pre (H : List AObj) : H = H ++ [] := (List.append_nil H).symm

section seqg
variable {c : Ctx} {ops : Array Oper} {Q : AExit → St → Prop} {rest : List Oper} {s : St} {i : Nat}
variable {d : Option Tmp} {op : Op} {t : TypeId} {p : String} {af : Array Edge}
/-- one operation whose guard is known to hold -/
theorem sq_op_yes {j u : Nat} {want : Bool} (hj : gslot ops j = some u) (ht : Nat.blt u c.nt = true) (hb : Less (sget s.sl u) (.raw (.bool want)))
    (h : ∀ e a, Sim c s e a → ∀ next : Act → World → Prop, (∀ s' e' a', SeqWP c ops Q (i + 1) rest s' → Sim c s' e' a' → next a' e'.w) → Oper.wpIn (FW c.r) 0 c.P ⟨d, op, t, p, af, some (j, want)⟩ a e.w next (lift c Q)) :
    SeqWP c ops Q i (⟨d, op, t, p, af, some (j, want)⟩ :: rest) s := by
  intro hdr e a hs
  obtain ⟨ho, hr⟩ := drop_cons hdr
  have ho : ops[i]? = some ⟨d, op, t, p, af, some (j, want)⟩ := by simpa using ho
  have hy := yielded_of (ops := ops) hj (by rw [hs.size]; simpa [Nat.blt_eq] using ht) (hb _ _ (hs.slots u))
  simp only [List.length_cons, List.range'_succ, wpOpsIn, ho, Region.wanted, hy]
  rw [if_pos (by simp)]
  exact h e a hs _ (fun s' e' a' k hs' => k hr e' _ hs')

theorem wp_yield {es : Env} {l : Nat} {x y : Operand} {ats : Array TypeId} {a : AV} {b : Bool} {H' : List AObj} {g : Option (Nat × Bool)} (hes : es.Le c.e0) (hd : dOK c.nt d = true) (hx : Less (s.op x) (.fn (.yield l) [] [])) (hy : Less (s.op y) a)
    (hc : AYieldAt es c.P l a s.H b H') {e : Env} {ac : Act} (hs : Sim c s e ac) {next : Act → World → Prop} (k : ∀ e' a', Sim c (St.put { s with H := H' } d (.raw (.bool b))) e' a' → next a' e'.w) :
    Oper.wpIn (FW c.r) 0 c.P ⟨d, .call ⟨.value x, #[y], ats⟩, t, p, af, g⟩ ac e.w next (lift c Q) := by
  have hxr := hx e _ (hs.op x)
  rw [Rep] at hxr
  obtain ⟨fv, cv, hfv, h1, h2⟩ := hxr
  rw [RepL] at h1 h2
  have h1 : fv = #[] := by simpa using h1
  have h2 : cv = #[] := by simpa using h2
  subst h1; subst h2
  obtain ⟨fn, tmps, assign, body, hrun, hround⟩ := hc e (ac.eval y) (hes.trans hs.fr.le) hs.ok hs.H (hy _ _ (hs.op y))
  refine ⟨about_FW _ _ _ _ _, ?_⟩
  show Oper.uponIn (FW c.r) 0 c.P _ ac next (lift c Q) (((Oper.semAt c.r ac.eval ⟨d, .call ⟨.value x, #[y], ats⟩, t, p, af, g⟩)).run c.P e.w)
  rw [semAt_of (by intro c h; cases h)]
  have hex : (execOp ac.eval ⟨d, .call ⟨.value x, #[y], ats⟩, t, p, af, g⟩).run c.P e.w = (Instr.yield l #[ac.eval y]).run c.P e.w := by
    simp [execOp, resolve, hfv, Deferred.ofValue, invoke]
  rw [hex, hrun]
  refine ⟨fun h => by simp [FW] at h, ?_⟩
  refine RoundIn.mono (F := FW none) (n := 0) hround ?_
  rintro ex w' ⟨rfl, e', rfl, ok', fr, hH'⟩
  have := hs.after ok' fr
  rw [hH'] at this
  exact k e' _ (this.put hd (by rw [Rep]))

theorem sq_yield_yes {j u : Nat} {want : Bool} {es : Env} {l : Nat} {x y : Operand} {ats : Array TypeId} {a : AV} {b : Bool} {H' : List AObj} (hj : gslot ops j = some u) (ht : Nat.blt u c.nt = true) (hb : Less (sget s.sl u) (.raw (.bool want)))
    (hes : es.Le c.e0) (hd : dOK c.nt d = true) (hx : Less (s.op x) (.fn (.yield l) [] [])) (hy : Less (s.op y) a)
    (hc : AYieldAt es c.P l a s.H b H') (k : SeqWP c ops Q (i + 1) rest (St.put { s with H := H' } d (.raw (.bool b)))) : SeqWP c ops Q i (⟨d, .call ⟨.value x, #[y], ats⟩, t, p, af, some (j, want)⟩ :: rest) s :=
  sq_op_yes hj ht hb fun _ _ hs _ hn => wp_yield hes hd hx hy hc hs fun e' _ hs' => hn _ e' _ k hs'
end seqg

/-- a slice lent to a function that only computes -/
theorem AQuiet.lend {P : Program} {f : FuncId} {args args' : List AV} {res : AV} {j n c sz : Nat} {es : List (List AV)} {rest : List AV} {H : List AObj}
    (hc : APure P f args res) (hr : res.flat = true) (hlend : FzL j n c sz es args' args)
    (hj : H[j]? = some (.cells (es.flatten ++ rest))) (hn : es.length = n) (hsz : ∀ q ∈ es, q.length = sz) : AQuiet P f args' H res := by
  intro e vs ok hH hargs
  have hlen := hargs.length
  have hje := pre_get hH hj
  have hjl := lt_of_get? hje
  have hsim : Sim ⟨P, none, vs.size, e⟩ ⟨slotsOf 0 args', e.H, []⟩ e { tmps := vs, defers := [] } := by
    refine ⟨rfl, fun t => ?_, DRepL.nil, rfl, ok, Fr.refl e⟩
    rw [get_slotsOf]
    simp only [Nat.zero_le, if_true, Nat.sub_zero]
    cases hat : args'[t]? with
    | none => simp only [Option.getD_none]; rw [Rep]; trivial
    | some q =>
      obtain ⟨u, k1, k2⟩ := hargs.get t q hat
      have : vs.getD t undef = u := by
        rw [Array.getD_eq_getD_getElem?]
        have : vs[t]? = some u := by simpa using k1
        rw [this]; rfl
      rw [this]; exact k2
  have hal : ∀ {l' l : List AV}, FzL j n c sz es l' l → l'.length = l.length := by
    intro l' l h; induction h with
    | nil => rfl
    | cons _ _ ih => simp [ih]
  obtain ⟨e1, hw1, hs1⟩ := sub_freeze (c := ⟨P, none, vs.size, e⟩) (s := ⟨slotsOf 0 args', e.H, []⟩) (j := j) (n := n) (cap := c) (sz := sz) (es := es) (rest := rest) (sl' := slotsOf 0 args) (H' := e.H.set j .dead) hje hn hsz (slotsOf_fz 0 hlend)
    (by
      have rst : ∀ (H : List AObj) (m : Nat), j < m → FzH j n c sz es m H H := by
        intro H
        induction H with
        | nil => exact fun m _ => FzH.nil m
        | cons o H ih => exact fun m hm => FzH.same o (by omega) (ih (m + 1) (by omega))
      have key : ∀ (H : List AObj) (m q : Nat), j = m + q → FzH j n c sz es m H (H.set q .dead) := by
        intro H
        induction H with
        | nil => exact fun m q _ => FzH.nil m
        | cons o H ih =>
          intro m q hq
          cases q with
          | zero => exact FzH.dead o (by omega) (rst H (m + 1) (by omega))
          | succ q => exact FzH.same o (by omega) (ih (m + 1) q (by omega))
      exact key e.H 0 j (by omega)) e { tmps := vs, defers := [] } hsim
  have hargs1 : RepL e1 args vs.toList := by
    have hl2 := hal hlend
    have key : ∀ (l : List AV) (k : Nat) (us : List Value), us.length = l.length → (∀ t, t < l.length → Rep e1 (sget (slotsOf k l) (k + t)) (us.getD t undef)) → RepL e1 l us := by
      intro l
      induction l with
      | nil => intro k us h _; rw [RepL]; exact List.length_eq_zero_iff.1 h
      | cons q l ih =>
        intro k us h hh
        cases us with
        | nil => simp at h
        | cons u us =>
          refine RepL.cons ?_ (ih (k + 1) us (by simpa using h) fun t ht => ?_)
          · have := hh 0 (by simp)
            simpa [slotsOf, sget] using this
          · have := hh (t + 1) (by simpa using ht)
            simp only [slotsOf, sget] at this
            have hne : (k == k + (t + 1)) = false := by simp
            rw [hne] at this
            rw [show k + 1 + t = k + (t + 1) by omega]
            simpa using this
    refine key args 0 vs.toList (by simpa using hlen.trans hl2) fun t ht => ?_
    have := hs1.slots t
    rw [Nat.zero_add]
    have e2 : vs.toList.getD t undef = vs.getD t undef := by rw [List.getD_eq_getElem?_getD, Array.getD_eq_getD_getElem?, Array.getElem?_toList]
    rw [e2]; exact this
  have := hc e1 vs hs1.ok hargs1
  rw [hw1] at this
  refine CallsIn.mono (F := FW none) (n := 0) this ?_
  rintro x w' ⟨u, e2, rfl, rfl, hxt, hu⟩
  have hsz2 : e.w.heap.size ≤ e2.w.heap.size := by have := hxt.size; rw [hw1] at this; exact this
  refine ⟨u, { H := e.H, μ := e.μ, G := fun b => if b < e.w.heap.size then e.G b else e2.G b, w := e2.w }, rfl, rfl, ⟨rfl, fun _ _ => rfl, hsz2, hw1 ▸ hxt.still, fun b hb => ?_, fun b hb => by simp [hb], fun b hb => ?_⟩, rep_flat hr hu⟩
  · have := hxt.heap b (by rw [hw1]; exact hb)
    rw [hw1] at this; exact this
  · have : ¬ b < e.w.heap.size := by simp only at hb; omega
    simp only [this, if_false]; exact hxt.fresh b hb
theorem AQuiet.of_pure {P : Program} {f : FuncId} {args : List AV} {res : AV} (h : APure P f args res) (H : List AObj) : AQuiet P f args H res := fun e vs ok _ hs => h e vs ok hs
theorem AQuiet.less {P : Program} {f : FuncId} {args args' : List AV} {H : List AObj} {res : AV} (h : AQuiet P f args H res) (ha : LessL args' args) : AQuiet P f args' H res := fun e vs ok hH hs => h e vs ok hH (ha.rep hs)

def ARes.inB (n : Nat) : ARes → Bool
  | .ret v => v.inB n
  | .pan v => v.inB n

/-- a call's own objects are dropped -/
theorem ACall.drop {P : Program} {f : FuncId} {args : List AV} {H H1 : List AObj} {R : ARes → Prop} (h : ACall P f args H fun x H' => (∃ X, H' = H1 ++ X) ∧ R x) (hn : H.length ≤ H1.length) (hin : objsIn H1.length H1 = true)
    (hR : ∀ x, R x → x.inB H1.length = true) : ACall P f args H fun x H' => H' = H1 ∧ R x := by
  intro e vs ok hH hs
  refine (h e vs ok hH hs).mono ?_
  rintro x w' ⟨ax, e', rfl, ok', fr, ⟨⟨X, hX⟩, hRx⟩, hend⟩
  have hcH : (e'.cut H1.length).H = H1 := by rw [cut_H, hX, List.take_left' rfl]
  refine ⟨ax, e'.cut H1.length, rfl, cut_ok ok' (by rw [← cut_H, hcH]; exact hin), fr.cut (by rw [hH]; exact hn), ⟨hcH, hRx⟩, ?_⟩
  cases ax with
  | ret v => obtain ⟨u, rfl, hu⟩ := hend; exact ⟨u, rfl, Rep.cut v (hR _ hRx) hu⟩
  | pan v => obtain ⟨u, rfl, hu⟩ := hend; exact ⟨u, rfl, Rep.cut v (hR _ hRx) hu⟩

theorem ACall.mono {P : Program} {f : FuncId} {args : List AV} {H : List AObj} {R R' : ARes → List AObj → Prop} (h : ACall P f args H R) (k : ∀ x H', R x H' → R' x H') : ACall P f args H R' :=
  fun e vs ok hH hs => (h e vs ok hH hs).mono fun _ _ ⟨ax, e', h1, h2, h3, h5, h6⟩ => ⟨ax, e', h1, h2, h3, k _ _ h5, h6⟩
end Go.Ab

namespace Go.Ab
variable [Tabs]

section
variable {P : Program} {b : Frame} {a : Act} {k : List Item} {cs : List Frame} {w : World}
theorem stepR_scope {c : Code} : step P (lone (b.atR a (.code (.scope c) :: k)) cs w) = .next (lone (b.atR a (.code c :: .inScope c :: k)) cs w) :=
  step_lone_go (by simp [stepG, stepG.exec, Frame.atR])
theorem stepR_inScope {c : Code} : step P (lone (b.atR a (.inScope c :: k)) cs w) = .next (lone (b.atR a k) cs w) :=
  step_lone_go (by simp [stepG, stepG.exec, Frame.atR])
theorem wpIn_scope {F : Fence} {n : Nat} {Q : Exit → Act → World → Prop} {c : Code} (h : c.wpIn F n P (fun x a w => (∀ l, x ≠ .goto l) ∧ Q x a w) a w) : (Code.scope c).wpIn F n P Q a w := by
  intro b k cs hro hb hr
  have h0 : (lone (b.atR a (.code (.scope c) :: k)) cs w).fenced P F := fenced_calm hb hr rfl
  obtain ⟨e, a₁, w₁, ⟨hg, hq⟩, harr⟩ := h b (.inScope c :: k) cs hro hb hr
  cases e with
  | normal => exact ⟨.normal, a₁, w₁, hq, .head h0 stepR_scope (StepsIn.trans harr (.one (fenced_calm hb hr rfl) stepR_inScope))⟩
  | exit id =>
    have hx : exitTo id (.inScope c :: k) = exitTo id k := by simp [exitTo]
    exact ⟨_, a₁, w₁, hq, fun k' hk => .head h0 stepR_scope (harr.1 k' (by rw [hx]; exact hk)),
      fun hr' hk => let ⟨k₁, h1, h2⟩ := harr.2 hr' (by rw [hx]; exact hk); ⟨k₁, h1, .head h0 stepR_scope h2⟩⟩
  | goto l => exact absurd rfl (hg l)
  | ret => exact ⟨_, a₁, w₁, hq, .of_steps (.one h0 stepR_scope) harr⟩
  | panic ch => exact ⟨_, a₁, w₁, hq, .of_steps (.one h0 stepR_scope) harr⟩
  | outgrown => exact ⟨_, a₁, w₁, hq, .of_steps (.one h0 stepR_scope) harr⟩
end

def AExit.noGoto (Q : AExit → St → Prop) : AExit → St → Prop
  | .goto _, _ => False
  | x, s => Q x s

section
variable {c : Ctx} {Q : AExit → St → Prop} {s : St}
theorem aw_scope {x : Code} (h : AWP c x (AExit.noGoto Q) s) : AWP c (.scope x) Q s := by
  intro e a hs
  refine wpIn_scope (wpIn_mono (h e a hs) ?_)
  rintro ex a' w ⟨ax, s', e', hq, rfl, hs', hx⟩
  cases ax with
  | normal => obtain rfl : ex = .normal := hx; exact ⟨fun l h => (by cases h), .normal, s', e', hq, rfl, hs', rfl⟩
  | exit j => obtain rfl : ex = .exit j := hx; exact ⟨fun l h => (by cases h), .exit j, s', e', hq, rfl, hs', rfl⟩
  | goto l => exact hq.elim
  | ret => obtain rfl : ex = .ret := hx; exact ⟨fun l h => (by cases h), .ret, s', e', hq, rfl, hs', rfl⟩
  | panic v => obtain ⟨u, rfl, hu⟩ := hx; exact ⟨fun l h => (by cases h), .panic v, s', e', hq, rfl, hs', u, rfl, hu⟩

/-- **A box that is written no more**, held in one slot. -/
theorem sub_iptrK (ks : List Nat) (t : Nat) {j : Nat} {l : List AV} (ht : sget s.sl t = .ptr j 0) (hj : s.H[j]? = some (.cells l)) : Sub c s ⟨(t, .iptr l) :: keepS s.sl ks, s.H.set j .dead, s.df⟩ := by
  refine sub_iptr hj rfl fun q hq e e' le key v hv => ?_
  rcases List.mem_cons.1 hq with rfl | hq
  · rw [ht] at hv; exact key v hv
  · unfold keepS at hq
    obtain ⟨u, _, rfl⟩ := List.mem_map.1 hq
    exact Rep.mono le _ hv
end
section
variable {P : Program} {r : Option Nat} {H : List AObj} {ρ : Operand → AV}
variable {d : Option Tmp} {t : TypeId} {p : String} {af : Array Edge} {g : Option (Nat × Bool)} {x y : Operand}
/-- an element of an array in a box that is written no more -/
theorem ev_index_box_i {xt et : TypeId} {len sz k : Nat} {l : List AV} {ik : IntKind} {n : Int} (ht : arrElem P xt = some (len, et, sz)) (hx : Less (ρ x) (.iptr l)) (hy : Less (ρ y) (.raw (.int ik n)))
    (hn : n = (k : Int)) (hk : k < len) : Ev P r ⟨d, .indexAddr xt x y, t, p, af, g⟩ H ρ (.iptr (l.drop (k * sz))) :=
  Ev.pure (by intro c h; cases h) fun e ρc ok hE hs => by
    subst hn
    obtain ⟨h1, ti, h2, rfl⟩ := arrElem_und ht
    have e2 := rep_raw hy (hs y (by simp [Op.operands]))
    have := hx e _ (hs x (by simp [Op.operands]))
    rw [Rep] at this
    obtain ⟨b, off, hpv, hc⟩ := this
    refine ⟨.pointer (some ⟨b, off + k * ti.size, none⟩), ?_, by rw [Rep]; exact ⟨b, _, rfl, hc.drop _⟩⟩
    simp [execOp, Instr.indexAt, hpv, e2, asIntOf, run_und h1, run_size h2, hk, Addr.add_lit, Instr.sureAddr]
end
end Go.Ab

namespace Go.Ab
variable [Tabs]

/-- one token more -/
def Env.pushT (e : Env) (o : Option Nat) : Env := { H := e.H ++ [.tok 0], μ := fun i => if i = e.H.length then o else e.μ i, G := e.G, w := e.w }

theorem pushT_T {e : Env} {o : Option Nat} {i : Nat} (hi : i < e.H.length) : (e.pushT o).T i = e.T i := by simp [Env.T, Env.pushT, List.getElem?_append_left hi]

theorem pushT_le (e : Env) (o : Option Nat) : e.Le (e.pushT o) := by
  refine ⟨by simp [Env.pushT], fun i hi ht => ⟨by rw [pushT_T hi]; exact ht, fun _ hb => by simpa [Env.pushT, Nat.ne_of_lt hi] using hb⟩, fun b off ho => ⟨ho, rfl⟩, fun i n ht => ?_⟩
  have hi := T_lt ht
  exact ⟨n, by rw [pushT_T hi]; exact ht, Nat.le_refl _, fun _ => ⟨by simp [Env.pushT, Nat.ne_of_lt hi], fun b cs t _ hh => ⟨rfl, cs, hh, rfl⟩⟩⟩

theorem pushT_ok {e : Env} (ok : EnvOK e) {o : Option Nat} (ho : ∀ b, o = some b → b < e.w.heap.size ∧ ∀ i, i < e.H.length → e.μ i ≠ some b) (ht : ∀ b, o = some b → Tabs.blk b → False) : EnvOK (e.pushT o) := by
  refine ⟨ok.fresh, fun i x hx => ?_, fun i j b hi hj h1 h2 => ?_, fun i b hi h1 => ?_, ⟨ok.tabs.1, fun b hb => ⟨(ok.tabs.2 b hb).1, fun i hi h1 => ?_⟩⟩⟩
  · rcases Nat.lt_or_ge i e.H.length with h | h
    · have hx' : e.H[i]? = some x := by simpa [Env.pushT, List.getElem?_append_left h] using hx
      exact ObjSim.mono (pushT_le e o) (ok.objs i x hx') (by simp [Env.pushT, Nat.ne_of_lt h]) (fun _ _ => ⟨rfl, rfl⟩)
    · have hi : i = e.H.length := by have := lt_of_get? hx; simp [Env.pushT] at this; omega
      subst hi
      have : x = .tok 0 := by simpa [Env.pushT] using hx.symm
      subst this; trivial
  · have hi' : i < e.H.length + 1 := by simpa [Env.pushT] using hi
    have hj' : j < e.H.length + 1 := by simpa [Env.pushT] using hj
    simp only [Env.pushT] at h1 h2
    by_cases e1 : i = e.H.length <;> by_cases e2 : j = e.H.length
    · omega
    · rw [if_pos e1] at h1; rw [if_neg e2] at h2
      exact absurd h2 ((ho b h1).2 j (by omega))
    · rw [if_neg e1] at h1; rw [if_pos e2] at h2
      exact absurd h1 ((ho b h2).2 i (by omega))
    · rw [if_neg e1] at h1; rw [if_neg e2] at h2; exact ok.inj i j b (by omega) (by omega) h1 h2
  · have hi' : i < e.H.length + 1 := by simpa [Env.pushT] using hi
    simp only [Env.pushT] at h1
    by_cases e1 : i = e.H.length
    · rw [if_pos e1] at h1; exact (ho b h1).1
    · rw [if_neg e1] at h1; exact ok.live i b (by omega) h1
  · have hi' : i < e.H.length + 1 := by simpa [Env.pushT] using hi
    simp only [Env.pushT] at h1
    by_cases e1 : i = e.H.length
    · rw [if_pos e1] at h1; exact ht b h1 hb
    · rw [if_neg e1] at h1; exact (ok.tabs.2 b hb).2 i (by omega) h1

/-- **A slice with room and without elements, out of a call, is the caller's own.** -/
theorem ACall.fresh {P : Program} {f : FuncId} {args : List AV} {H : List AObj} {sz : Nat}
    (h : ACall P f args H fun x H' => (H' = H ∧ x = .ret (.raw (.slice none 0 0))) ∨ ∃ (cap : Nat) (l : List AV), H' = H ++ [.cells l] ∧ l.length = cap * sz ∧ x = .ret (.msl H.length 0 0 cap))
    (hin : objsIn H.length H = true) : ACall P f args H fun x H' => H' = H ++ [.tok 0] ∧ x = .ret (.own H.length sz []) := by
  intro e vs ok hH hs
  refine (h e vs ok hH hs).mono ?_
  rintro x w' ⟨ax, e', rfl, ok', fr, hR, hend⟩
  rcases hR with ⟨hH', rfl⟩ | ⟨cap, l, hH', hl, rfl⟩
  · obtain ⟨u, rfl, hu⟩ := hend
    refine ⟨.ret (.own H.length sz []), e'.pushT none, rfl, pushT_ok ok' (fun b h => by cases h) (fun b h => by cases h), ⟨fr.size, fr.still, fr.heap, fun i b hi h1 => ?_, fr.le.trans (pushT_le _ _)⟩, ⟨by simp [Env.pushT, hH'], rfl⟩, u, rfl, ?_⟩
    · have hi' : i < e'.H.length + 1 := by simpa [Env.pushT] using hi
      simp only [Env.pushT] at h1
      by_cases e1 : i = e'.H.length
      · rw [if_pos e1] at h1; cases h1
      · rw [if_neg e1] at h1; exact fr.objs i b (by omega) h1
    · rw [Rep] at hu; subst hu
      rw [Rep]
      exact ⟨none, 0, 0, rfl, rfl, Nat.le_refl _, fun _ => rfl, by simp, fun ad h => (by cases h), by simp [Env.pushT, hH'], ⟨0, by simp [Env.T, Env.pushT, tokOf, hH'], Nat.le_refl _⟩, fun _ ad h => (by cases h)⟩
  · obtain ⟨u, rfl, hu⟩ := hend
    have hje : e'.H[H.length]? = some (.cells l) := by rw [hH']; simp
    obtain ⟨b, cs, ct, m1, m2, m3, m4, m5⟩ := ok'.objs _ _ hje
    have hcH : (e'.cut H.length).H = H := by rw [cut_H, hH', List.take_left' rfl]
    have okc : EnvOK (e'.cut H.length) := cut_ok ok' (by rw [← cut_H, hcH]; exact hin)
    have frc := fr.cut (n := H.length) (by rw [hH]; exact Nat.le_refl _)
    have hlen : e'.H.length = H.length + 1 := by rw [hH']; simp
    refine ⟨.ret (.own H.length sz []), (e'.cut H.length).pushT (some b), rfl, pushT_ok okc (fun b' hb' => ?_) (fun b' hb' hk => by cases hb'; exact (ok'.tabs.2 b hk).2 H.length (by omega) m1), ⟨fr.size, fr.still, fr.heap, fun i b' hi h1 => ?_, frc.le.trans (pushT_le _ _)⟩, ⟨by simp [Env.pushT, hcH], rfl⟩, u, rfl, ?_⟩
    · cases hb'
      refine ⟨lt_of_heap m3, fun i hi hb => ?_⟩
      rw [hcH] at hi
      have := ok'.inj i H.length b (by omega) (by omega) hb m1
      omega
    · have hi' : i < H.length + 1 := by simpa [Env.pushT, hcH] using hi
      simp only [Env.pushT] at h1
      rw [hcH] at h1
      by_cases e1 : i = H.length
      · rw [if_pos e1] at h1; cases h1; exact fr.objs H.length b (by omega) m1
      · rw [if_neg e1] at h1; exact fr.objs i b' (by omega) h1
    · rw [Rep] at hu
      obtain ⟨_, _, b', hb', rfl, hle⟩ := hu
      rw [m1] at hb'; cases hb'
      rw [Rep]
      refine ⟨some ⟨b, 0, none⟩, 0, cap, rfl, rfl, hle, fun h => (by cases h), by simp, fun ad h => (by cases h; exact ⟨rfl, by rw [ElemsAt]; trivial⟩), by simp [Env.pushT, hcH], ⟨0, by simp [Env.T, Env.pushT, tokOf, hcH], Nat.le_refl _⟩, fun _ ad h hlt => ?_⟩
      cases h
      refine ⟨by simp [Env.pushT, hcH], by simpa [Env.pushT, Env.cut] using m2, cs, ct, m3, ?_⟩
      have := m4.length
      rw [Array.length_toList] at this
      simp only [Nat.zero_add]
      omega

/-! ### append of a make -/
section
variable {P : Program}
theorem run_append_make (w : World) (t tx ty e : TypeId) (i : TypeInfo) (z : Value) (ht : P.underlying t = some (.slice e)) (hx : P.underlying tx = some (.int .i64)) (hi : P.info? e = some i) (hz : i.zero = some z)
    (n : Nat) (h0 : 0 < n) (hs : 0 < i.size) (h63 : (n : Int) ≤ 9223372036854775807) (h48 : n * i.bytes ≤ 281474976710656) :
    (Builtin.append_ #[t, tx] ty #[.slice none 0 0, .int .i64 n]).run P w =
      .ok (.slice (some ⟨w.heap.size, 0, none⟩) n (grownCap w n 0 e)) (w.drew.alloc (.cells (Builtin.zeroCells z.cells n ++ Builtin.zeroCells z.cells (grownCap w n 0 e - n)) e)) := by
  have hn : n ≠ 0 := by omega
  have hs' : i.size ≠ 0 := by omega
  have h63' : ¬ (9223372036854775807 < (n : Int)) := by omega
  have hl0 : ¬ ((n : Int) < 0) := by omega
  have h48' : ¬ (281474976710656 < Builtin.nextslicecap n 0 * i.bytes) := by rw [nextslicecap_zero h0]; omega
  have h48i : ¬ ((281474976710656 : Int) < (n : Int) * (i.bytes : Int)) := by
    have : ((n * i.bytes : Nat) : Int) ≤ ((281474976710656 : Nat) : Int) := Int.ofNat_le.2 h48
    rw [Int.natCast_mul] at this
    exact Int.not_lt.2 this
  have hw : IntKind.i64.wrap (n : Int) = n := IntWalk.i64_in _ ⟨by omega, by omega⟩
  simp [Builtin.append_, run_underlying ht, run_underlying hx, sizeOf, typeInfo, zeroValue, hi, hz, asInt, asIntOf, hw, hl0, h48i, hn, hs', h63', h48', Question.forced, run_firstCells_none, newRow, grownCap]
  intro h; exact absurd h (Nat.mul_ne_zero hn hs')
end

section seq
variable {c : Ctx} {ops : Array Oper} {Q : AExit → St → Prop} {rest : List Oper} {s : St} {i : Nat}
variable {d : Option Tmp} {t : TypeId} {p : String} {af : Array Edge}
theorem sq_append_make {x y : Operand} {st xt et : TypeId} {sz bytes n : Nat} (hd : dOK c.nt d = true)
    (hf : SlFact c.P st et sz bytes) (hk : c.P.underlying xt = some (.int .i64)) (hsz : 0 < sz) (hx : Less (s.op x) (.raw (.slice none 0 0))) (hy : Less (s.op y) (.raw (.int .i64 n))) (hpos : 0 < n)
    (hb : n * bytes ≤ 140737488355328) (h63 : n ≤ 9223372036854775807)
    (k : ∀ cap, n ≤ cap → SeqWP c ops Q (i + 1) rest (St.put { s with H := s.H ++ [.cells (List.replicate (cap * sz) .any)] } d (.msl s.H.length 0 n cap))) :
    SeqWP c ops Q i (⟨d, .call ⟨.builtin .append, #[x, y], #[st, xt]⟩, t, p, af, none⟩ :: rest) s := by
  refine sq_op fun e ac hs next hn' => ?_
  have hu := rep_raw hx (hs.op x)
  have hv := rep_raw hy (hs.op y)
  obtain ⟨ti, z, k1, k2, rfl, rfl, k5, k6, k7⟩ := hf.ex
  have hrun := run_append_make (P := c.P) e.w st xt t et ti z k1 hk k2 k5 n hpos hsz (by omega) (by omega)
  have hle := grownCap_le e.w n 0 et
  generalize grownCap e.w n 0 et = cap at hrun hle
  have hs1 := hs.ext (EnvOK.drew hs.ok)
  have hzl : (Builtin.zeroCells z.cells n ++ Builtin.zeroCells z.cells (cap - n)).toList.length = cap * ti.size := by
    simp only [Array.toList_append, List.length_append, Builtin.zeroCells, Array.toList_map, Array.toList_range, List.length_map, List.length_range, k7]
    rw [← Nat.add_mul]; congr 1; omega
  have hrl : RepL { e with w := { e.w with drawn := e.w.drawn + 1 } } (List.replicate (cap * ti.size) .any) (Builtin.zeroCells z.cells n ++ Builtin.zeroCells z.cells (cap - n)).toList := by
    rw [← hzl]; exact RepL.anys _
  have hcell : ∀ q ∈ (Builtin.zeroCells z.cells n ++ Builtin.zeroCells z.cells (cap - n)).toList, isCell q = true := by
    intro q hq
    rw [Array.toList_append] at hq
    rcases List.mem_append.1 hq with h | h <;> exact zeroCells_cell k6 _ q h
  have hs2 := hs1.push (push_cells (t := et) hs1.ok hrl hcell)
  refine ⟨about_FW _ _ _ _ _, ?_⟩
  show Oper.uponIn (FW c.r) 0 c.P _ ac next (lift c Q) (((Oper.semAt c.r ac.eval ⟨d, .call ⟨.builtin .append, #[x, y], #[st, xt]⟩, t, p, af, none⟩)).run c.P e.w)
  rw [semAt_of (by intro c h; cases h)]
  have hex : (execOp ac.eval ⟨d, .call ⟨.builtin .append, #[x, y], #[st, xt]⟩, t, p, af, none⟩).run c.P e.w = ((Builtin.append_ #[st, xt] t #[.slice none 0 0, .int .i64 n]).run c.P e.w).andThen fun v w'' => .ok (.value v) w'' := by
    simp [execOp, resolve, invoke, builtin, hu, hv]
  rw [hex, hrun]
  refine hn' _ _ _ (k cap (by omega)) (hs2.put hd ?_)
  rw [Rep]
  refine ⟨?_, ?_, e.w.heap.size, ?_, by simp, by omega⟩
  · simp [Env.push, hs.H]
  · simp [Env.T, Env.push, hs.H, tokOf]
  · simp [Env.push, hs.H]
end seq

section
variable {P : Program} {r : Option Nat} {H : List AObj} {ρ : Operand → AV}
variable {d : Option Tmp} {t : TypeId} {p : String} {af : Array Edge} {g : Option (Nat × Bool)} {x y : Operand}
theorem ev_cap_nil {xt et : TypeId} {sz : Nat} (ht : slElem P xt = some (et, sz)) (hx : Less (ρ x) (.raw (.slice none 0 0))) : Ev P r ⟨d, .call ⟨.builtin .cap, #[x], #[xt]⟩, t, p, af, g⟩ H ρ (.raw (.int .i64 0)) :=
  Ev.pure (by intro c h; cases h) fun e ρc ok hE hs => by
    obtain ⟨h1, _⟩ := slElem_und ht
    have hv := rep_raw hx (hs x (by simp [Op.operands, Call.operands]))
    exact ⟨.int .i64 0, by simp [execOp, resolve, invoke, builtin, Builtin.cap_, run_und h1, hv, goInt], by rw [Rep]⟩
theorem ev_slice_nil {xt et : TypeId} {sz : Nat} {q : Operand} (ht : slElem P xt = some (et, sz)) (hx : Less (ρ x) (.raw (.slice none 0 0))) (hq : Less (ρ q) (.raw (.int .i64 0))) :
    Ev P r ⟨d, .slice xt x none (some q) none, t, p, af, g⟩ H ρ (.raw (.slice none 0 0)) :=
  Ev.pure (by intro c h; cases h) fun e ρc ok hE hs => by
    obtain ⟨k1, ti, k2, rfl⟩ := slElem_und ht
    have hv := rep_raw hx (hs x (by simp [Op.operands]))
    have hhi := rep_raw hq (hs q (by simp [Op.operands]))
    have hbd : (Instr.sliceBounds true 0 0 (Option.map ρc none) (some (ρc q)) none).run P e.w = .ok (0, 0, 0) e.w := by
      simp [Instr.sliceBounds, Instr.sliceBound, hhi, asIntOf]
    refine ⟨.slice none 0 0, ?_, by rw [Rep]⟩
    simp only [Option.map_none] at hbd
    simp [execOp, Instr.sliceAt, Instr.slice, run_und k1, hv, hbd, run_size k2, Addr.add]
end
end Go.Ab

namespace Go.Ab
variable [Tabs]

/-- a string -/
abbrev S (l : List UInt8) : AV := .raw (.string ⟨l.toArray⟩)
theorem bs_app (a b : List UInt8) : (⟨a.toArray⟩ : ByteArray) ++ ⟨b.toArray⟩ = ⟨(a ++ b).toArray⟩ := by
  exact ByteArray.mk_append_mk a b
theorem flat_single {α : Type} (f : α → AV) (l : List α) : (l.map fun n => [f n]).flatten = l.map f := by
  induction l with
  | nil => rfl
  | cons u us ih => simp [ih]
theorem bs_eq (a b : List UInt8) : decide ((⟨a.toArray⟩ : ByteArray) = ⟨b.toArray⟩) = decide (a = b) := by
  refine decide_eq_decide.2 ⟨fun h => ?_, fun h => by rw [h]⟩
  have := congrArg (fun s : ByteArray => s.data.toList) h
  simpa using this
theorem bs_size (a : List UInt8) : (⟨a.toArray⟩ : ByteArray).size = a.length := by simp [ByteArray.size]

/-! ### Contracts that stand already -/
/-- **A contract with new blocks behind the heap, at the most.** -/
theorem apure_of_calls {P : Program} {f : FuncId} {vs : List Value} {u : Value} (h : ∀ w, Tabs.is w → Calls P f vs.toArray w fun x w' => x = .returned u ∧ Still w w' ∧ ∃ os, w'.heap = w.heap ++ os) : APure P f (vs.map .raw) (.raw u) := by
  intro e us ok hs
  have hu : us = vs.toArray := Array.ext' (by simpa using repL_raws_eq hs)
  subst hu
  have h1 := (callsIn_wide (n := 0)).2 (h e.w ok.tabs.1)
  refine CallsIn.mono (F := FW none) (n := 0) h1 ?_
  rintro x w' ⟨rfl, hst, os, hw⟩
  refine ⟨u, { e with w := w' }, rfl, rfl, ⟨rfl, fun _ _ => rfl, by simp [hw], hst, fun b hb => ?_, fun _ _ => rfl, fun b hb => ok.fresh b ?_⟩, by rw [Rep]⟩
  · show w'.heap[b]? = _
    rw [hw, Array.getElem?_append_left hb]
  · have : w'.heap.size ≤ b := hb
    rw [hw, Array.size_append] at this; omega

/-- **A contract with one new row.** -/
theorem apure_of_row {P : Program} {f : FuncId} {vs us : List Value} {et : TypeId} (h1 : ∀ u ∈ us, isCell u = true)
    (h : ∀ w, Tabs.is w → Calls P f vs.toArray w fun x w' => x = .returned (.slice (some ⟨w.heap.size, 0, none⟩) us.length us.length) ∧ Still w w' ∧ w'.heap = w.heap.push (.cells us.toArray et (0, 0))) :
    APure P f (vs.map .raw) (.sl 1 (us.map fun u => [.raw u])) := by
  intro e qs ok hs
  have hu : qs = vs.toArray := Array.ext' (by simpa using repL_raws_eq hs)
  subst hu
  have hc := (callsIn_wide (n := 0)).2 (h e.w ok.tabs.1)
  refine CallsIn.mono (F := FW none) (n := 0) hc ?_
  rintro x w' ⟨rfl, hst, hw⟩
  have hcells := cells_row ok hw hst (RepL.raws us) h1 (fun j v hj => by simpa using hj)
  refine ⟨_, e.row us.length w', rfl, rfl, Env.row_ext ok hw hst, ?_⟩
  rw [Rep]
  refine ⟨_, _, _, rfl, by simp, Nat.le_refl _, fun h => (by cases h), fun c hc => by obtain ⟨u, _, rfl⟩ := List.mem_map.1 hc; rfl, fun ad had => ?_⟩
  cases had
  refine ⟨rfl, ElemsAt.flat.2 ?_⟩
  rw [flat_single]; exact hcells

section ops
variable {P : Program} {r : Option Nat} {H : List AObj} {ρ : Operand → AV}
variable {d : Option Tmp} {t : TypeId} {p : String} {af : Array Edge} {g : Option (Nat × Bool)}
variable {x y z : Operand}

theorem ev_catS {a b : List UInt8} {xt yt : TypeId} (hx : Less (ρ x) (S a)) (hy : Less (ρ y) (S b)) (hl : a.length + b.length ≤ 9223372036854775807) :
    Ev P r ⟨d, .binOp .add xt x y yt, t, p, af, g⟩ H ρ (S (a ++ b)) := by
  have := ev_concat (P := P) (r := r) (H := H) (d := d) (t := t) (p := p) (af := af) (g := g) (xt := xt) (yt := yt) hx hy (by rw [bs_size, bs_size]; exact hl)
  rw [bs_app] at this; exact this
theorem ev_seqS {a b : List UInt8} {xt yt : TypeId} (hx : Less (ρ x) (S a)) (hy : Less (ρ y) (S b)) : Ev P r ⟨d, .binOp .eql xt x y yt, t, p, af, g⟩ H ρ (.raw (.bool (decide (a = b)))) := by
  rw [← bs_eq]; exact ev_seql hx hy
theorem ev_sneS {a b : List UInt8} {xt yt : TypeId} (hx : Less (ρ x) (S a)) (hy : Less (ρ y) (S b)) : Ev P r ⟨d, .binOp .neq xt x y yt, t, p, af, g⟩ H ρ (.raw (.bool (decide (a ≠ b)))) := by
  have h := ev_sneq (P := P) (r := r) (H := H) (d := d) (t := t) (p := p) (af := af) (g := g) (xt := xt) (yt := yt) hx hy
  have e1 : decide ((⟨a.toArray⟩ : ByteArray) ≠ ⟨b.toArray⟩) = decide (a ≠ b) := by
    have := bs_eq a b
    have h2 := decide_eq_decide.1 this
    exact decide_eq_decide.2 (not_congr h2)
  rw [e1] at h; exact h
theorem ev_lenS {a : List UInt8} {xt : TypeId} (ht : P.underlying xt = some .string) (hx : Less (ρ x) (S a)) : Ev P r ⟨d, .call ⟨.builtin .len, #[x], #[xt]⟩, t, p, af, g⟩ H ρ (.raw (.int .i64 a.length)) := by
  rw [← bs_size]; exact ev_len_str ht hx
theorem ev_idxS {xt : TypeId} {s : List UInt8} {k : Nat} {ik : IntKind} {m : Int} (ht : P.underlying xt = some .string) (hx : Less (ρ x) (S s)) (hy : Less (ρ y) (.raw (.int ik m))) (hm : m = (k : Int)) (hk : k < s.length) :
    Ev P r ⟨d, .index xt x y, t, p, af, g⟩ H ρ (.raw (.int .u8 (s[k].toNat : Int))) := by
  have := ev_index_str (P := P) (r := r) (H := H) (d := d) (t := t) (p := p) (af := af) (g := g) ht hx hy hm (by rw [bs_size]; exact hk)
  exact this
/-- a string of numbers -/
theorem ev_bytesS {src dst et : TypeId} {ns : List Int} (hs1 : P.underlying src = some (.slice et)) (he : P.underlying et = some (.int .u8)) (hd1 : P.underlying dst = some .string) (hx : Less (ρ x) (.sl 1 (ns.map fun n => [.raw (.int .u8 n)]))) :
    Ev P r ⟨d, .convert src dst x, t, p, af, g⟩ H ρ (S (ns.map fun n => UInt8.ofNat n.toNat)) :=
  Ev.pure (by intro c h; cases h) fun e ρc ok hE hs => by
    have := hx e _ (hs x (by simp [Op.operands]))
    rw [Rep] at this
    obtain ⟨a, len, cap, hv, hlen, hle, hnil, hsz, hc⟩ := this
    refine ⟨.string ⟨(ns.map fun n => UInt8.ofNat n.toNat).toArray⟩, ?_, by rw [Rep]⟩
    have hstr : strOfNums ns = ⟨(ns.map fun n => UInt8.ofNat n.toNat).toArray⟩ := rfl
    cases a with
    | none =>
      have hc0 := hnil rfl
      have : ns = [] := List.length_eq_zero_iff.1 (by rw [List.length_map] at hlen; omega)
      subst this
      simp only [execOp, hv, Sem.run_bind, run_convert_bytes_nil e.w src et hs1 he len cap dst hd1]
      rfl
    | some ad =>
      obtain ⟨hsp, hel⟩ := hc ad rfl
      obtain ⟨b, off, sp⟩ := ad
      simp only at hsp hel; subst hsp
      have hfl := flat_single (fun n => AV.raw (Value.int .u8 n)) ns
      have hcells := ElemsAt.flat.1 hel
      rw [hfl] at hcells
      have := run_convert_bytes_arg (P := P) e.w src et hs1 he b off len cap ns (by rw [hlen, List.length_map]) (fun i hi => by
        have hin : i < ns.length := by rw [hlen, List.length_map] at hi; exact hi
        obtain ⟨_, v, h2, h3, _⟩ := CellsAt.get i (.raw (.int .u8 ns[i])) hcells (by simp [List.getElem?_eq_getElem hin])
        rw [Rep] at h3; subst h3
        rw [h2, List.getD_eq_getElem?_getD, List.getElem?_eq_getElem hin]; rfl) dst hd1
      rw [hstr] at this
      simp only [execOp, hv, Sem.run_bind, this]
      rfl
end ops

section seq
variable {c : Ctx} {ops : Array Oper} {Q : AExit → St → Prop} {rest : List Oper} {s : St} {i : Nat}
variable {d : Option Tmp} {t : TypeId} {p : String} {af : Array Edge}
/-- a range over a string -/
theorem sq_rangeS {x : Operand} {xt : TypeId} {b : ByteArray} (hd : dOK c.nt d = true) (ht : c.P.underlying xt = some .string) (hx : Less (s.op x) (.raw (.string b)))
    (k : SeqWP c ops Q (i + 1) rest (St.put { s with H := s.H ++ [.raw (.stringIter b 0)] } d (.ptr s.H.length 0))) : SeqWP c ops Q i (⟨d, .range xt x, t, p, af, none⟩ :: rest) s :=
  sq_run (by intro c h; cases h) hd (fun e ac hs => by
    have hv := rep_raw hx (hs.op x)
    refine ⟨.pointer (some ⟨e.w.heap.size, 0, none⟩), e.push (.raw (.stringIter b 0)) (.stringIter b 0), ?_, hs.push (push_raw hs.ok _), ?_⟩
    · simp only [execOp, hv, Sem.run_bind, run_range_string e.w xt b ht]; rfl
    · rw [Rep]
      refine ⟨by simp [Env.push, hs.H], ?_, e.w.heap.size, by simp [Env.push, hs.H], rfl⟩
      unfold Env.T; simp [Env.push, hs.H, tokOf]) k

theorem run_next_at {P : Program} {w : World} {b : Nat} {s : ByteArray} {pos : Nat} {ty : TypeId} (hh : w.heap[b]? = some (.stringIter s pos)) (h : pos < s.size) :
    (Instr.next (.pointer (some ⟨b, 0, none⟩)) true ty).run P w = .ok (.tuple #[.bool true, .int .i64 pos, .int .i32 (Utf8.decode s pos).1]) (w.putObj b (.stringIter s (pos + (Utf8.decode s pos).2))) := by
  simp only [Instr.next, getObj, setObj, Sem.run_bind, Sem.run, hh, Result.andThen, h, if_true]
  simp [goInt, World.putObj]

theorem sq_nextS {x : Operand} {ty : TypeId} {b : ByteArray} {j pos : Nat} (hd : dOK c.nt d = true) (hx : Less (s.op x) (.ptr j 0)) (hj : s.H[j]? = some (.raw (.stringIter b pos)))
    (k1 : pos < b.size → SeqWP c ops Q (i + 1) rest (St.put { s with H := s.H.set j (.raw (.stringIter b (pos + (Utf8.decode b pos).2))) } d (.tup [.raw (.bool true), .raw (.int .i64 pos), .raw (.int .i32 (Utf8.decode b pos).1)])))
    (k2 : ¬ pos < b.size → SeqWP c ops Q (i + 1) rest (St.put s d (.tup [.raw (.bool false)]))) : SeqWP c ops Q i (⟨d, .next x true, ty, p, af, none⟩ :: rest) s := by
  by_cases hlt : pos < b.size
  · refine sq_run (by intro c h; cases h) hd (fun e ac hs => ?_) (k1 hlt)
    have hv := hx e _ (hs.op x)
    rw [Rep] at hv
    obtain ⟨_, _, q, hq, hv⟩ := hv
    have hje : e.H[j]? = some (.raw (.stringIter b pos)) := by rw [hs.H]; exact hj
    obtain ⟨q', hq', hh, _⟩ := hs.ok.objs j _ hje
    rw [hq] at hq'; cases hq'
    obtain ⟨ok', fr'⟩ := setRaw_all (o := .stringIter b (pos + (Utf8.decode b pos).2)) hs.ok hje hq rfl rfl
    refine ⟨.tuple #[.bool true, .int .i64 pos, .int .i32 (Utf8.decode b pos).1], e.setRaw j q (.stringIter b (pos + (Utf8.decode b pos).2)), ?_, ⟨hs.size, fun t => Rep.mono fr'.le _ (hs.slots t), hs.defers.mono fr'.le, by simp [Env.setRaw, hs.H], ok', hs.fr.trans fr'⟩, ?_⟩
    · simp only [execOp, hv, Sem.run_bind, run_next_at hh hlt]; rfl
    · rw [Rep]; exact ⟨_, rfl, RepL.cons (by rw [Rep]) (RepL.cons (by rw [Rep]) (RepL.cons (by rw [Rep]) RepL.nil))⟩
  · refine sq_run (by intro c h; cases h) hd (fun e ac hs => ?_) (H' := s.H) (k2 hlt)
    have hv := hx e _ (hs.op x)
    rw [Rep] at hv
    obtain ⟨_, _, q, hq, hv⟩ := hv
    have hje : e.H[j]? = some (.raw (.stringIter b pos)) := by rw [hs.H]; exact hj
    obtain ⟨q', hq', hh, _⟩ := hs.ok.objs j _ hje
    rw [hq] at hq'; cases hq'
    refine ⟨.tuple #[.bool false], e, ?_, hs, ?_⟩
    · have : (Instr.next (.pointer (some ⟨q, 0, none⟩)) true ty).run c.P e.w = .ok (.tuple #[.bool false]) e.w := by
        simp [Instr.next, getObj, Sem.run, hh, hlt]
      simp only [execOp, hv, Sem.run_bind, this]; rfl
    · rw [Rep]; exact ⟨_, rfl, RepL.cons (by rw [Rep]) RepL.nil⟩
end seq
end Go.Ab

namespace Go.Ab
open Go.Lib

/-- a string, cut at each c -/
def cut (c : UInt8) : List UInt8 → List (List UInt8)
  | [] => [[]]
  | b :: l => if b = c then [] :: cut c l else match cut c l with
    | [] => [[b]]
    | x :: xs => (b :: x) :: xs

theorem index_nil (c : UInt8) : index [] [c] = -1 := rfl
theorem index_eq (c : UInt8) (l : List UInt8) : index (c :: l) [c] = 0 := by
  unfold index; rw [if_pos (by simp)]
theorem index_ne {b c : UInt8} (l : List UInt8) (h : b ≠ c) : index (b :: l) [c] = if index l [c] == -1 then -1 else index l [c] + 1 := by
  rw [index]
  rw [if_neg (by simp; exact fun e => h e.symm)]

theorem split_cut (c : UInt8) : ∀ l : List UInt8, splitK [c] 0 (count l [c]) l = cut c l
  | [] => rfl
  | b :: l => by
    have ih := split_cut c l
    by_cases h : b = c
    · subst h
      rw [count_cons_eq, Nat.add_comm, cut, if_pos rfl, ← ih]
      rw [splitK, index_eq]
      rw [if_neg (by decide)]
      rfl
    · rw [count_cons_ne _ _ _ h, cut, if_neg h, ← ih]
      cases hk : count l [c] with
      | zero => rfl
      | succ k =>
        rw [splitK, splitK, index_ne l h]
        have hge := index_ge l [c]
        by_cases hi : index l [c] = -1
        · rw [hi]; rfl
        · have e1 : (index l [c] == -1) = false := by simpa using hi
          have e2 : (index l [c] + 1 == -1) = false := by simp; omega
          rw [e1]
          simp only [Bool.false_eq_true, if_false, e2]
          have e3 : (index l [c] + 1).toNat = (index l [c]).toNat + 1 := by omega
          rw [e3]
          simp only [Nat.add_zero, List.take_succ_cons, List.length_singleton]
          congr 1

theorem splitB_cut (c : UInt8) (l : List UInt8) : (splitB ⟨#[c]⟩ 0 (countB ⟨l.toArray⟩ ⟨#[c]⟩) ⟨l.toArray⟩).map (·.data.toList) = cut c l := by
  rw [splitB_data]
  have : countB ⟨l.toArray⟩ ⟨#[c]⟩ = count l [c] := by unfold countB; simp
  rw [this]
  have := split_cut c l
  simpa using this

theorem cut_len (c : UInt8) : ∀ l : List UInt8, (cut c l).length ≤ l.length + 1 ∧ 0 < (cut c l).length
  | [] => by simp [cut]
  | b :: l => by
    have := cut_len c l
    rw [cut]
    split
    · simp; omega
    · cases h : cut c l with
      | nil => rw [h] at this; simp at this
      | cons x xs => rw [h] at this; simp at this ⊢; omega
theorem cut_mem (c : UInt8) : ∀ l : List UInt8, ∀ x ∈ cut c l, x.length ≤ l.length
  | [] => by simp [cut]
  | b :: l => by
    intro x hx
    have ih := cut_mem c l
    rw [cut] at hx
    split at hx
    · rcases List.mem_cons.1 hx with rfl | hx
      · simp
      · have := ih x hx; simp; omega
    · cases h : cut c l with
      | nil => rw [h] at hx; simp at hx; subst hx; simp
      | cons y ys =>
        rw [h] at hx ih
        rcases List.mem_cons.1 hx with rfl | hx
        · have := ih y (by simp); simp; omega
        · have := ih x (by simp [hx]); simp; omega
end Go.Ab

namespace Go.Ab
variable [Tabs]

/-- the function behind a method of a struct, called by value -/
def methOf (P : Program) (t : TypeId) (name : String) : Option FuncId :=
  match P.info? t, P.underlying t with
  | some i, some (.struct _) => match i.methods.find? (·.name == name) with
    | some m => match m.path.isEmpty, m.func with
      | true, some (f, false) => some f
      | _, _ => none
    | none => none
  | _, _ => none

theorem run_method {P : Program} {t : TypeId} {name : String} {f : FuncId} (h : methOf P t name = some f) (n : Nat) (v : Value) (w : World) : (method (n + 1) t v name).run P w = .ok (f, v) w := by
  unfold methOf at h
  split at h
  · rename_i i fs hi hu
    split at h
    · rename_i m hm
      split at h
      · rename_i f' hp hf
        simp only [Option.some.injEq] at h; subst h
        have hp' : m.path = #[] := by simpa using hp
        simp [method, typeInfo, hi, hm, hp', follow, hf, receiverAt, run_und hu, Place.get]
      · cases h
    · cases h
  · cases h

section ops
variable {P : Program} {r : Option Nat} {H : List AObj} {ρ : Operand → AV}
variable {d : Option Tmp} {t : TypeId} {p : String} {af : Array Edge} {g : Option (Nat × Bool)}
/-- a call of a method that only computes -/
theorem ev_invoke {x : Operand} {name : String} {ats : Array TypeId} {dt : TypeId} {f : FuncId} {a res : AV} (hm : methOf P dt name = some f) (he : Ent P f) (hx : Less (ρ x) (.ifc dt a)) (hc : APure P f [a] res) :
    Ev P r ⟨d, .call ⟨.invoke x name, #[], ats⟩, t, p, af, g⟩ H ρ res := by
  intro e ac next Q' ok hH hs hn
  have hxr := hx e _ (hs x (by simp [Op.operands, Call.operands]))
  rw [Rep] at hxr
  obtain ⟨u, hu, hr⟩ := hxr
  refine ⟨about_FW _ _ _ _ _, ?_⟩
  show Oper.uponIn (FW r) 0 P _ ac next Q' (((Oper.semAt r ac.eval ⟨d, .call ⟨.invoke x name, #[], ats⟩, t, p, af, g⟩)).run P e.w)
  have hrun : (execOp ac.eval ⟨d, .call ⟨.invoke x name, #[], ats⟩, t, p, af, g⟩).run P e.w = .ok (.enter f #[u]) e.w := by
    have hmr := run_method hm (P.types.size + 99) u e.w
    have e1 : P.types.size + Made.depth = (P.types.size + 99) + 1 := rfl
    simp only [execOp, resolve, hu]
    simp [invoke, callMethod, run_program, e1, hmr, he #[u] e.w]
  rw [semAt_of (by intro c h; cases h), hrun]
  refine ⟨fun h => by simp [FW] at h, ?_⟩
  have := hc e #[u] ok (RepL.cons hr RepL.nil)
  refine CallsIn.mono (F := FW r) (n := 0) this ?_
  rintro x w' ⟨u, e', rfl, rfl, hxt, hu⟩
  exact hn u e' hxt hu
end ops

/-- a slice without room is its holder's own -/
theorem sub_token_slx {c : Ctx} {s : St} (u sz : Nat) {es : List (List AV)} (hu : Less (sget s.sl u) (.slx sz es)) :
    Sub c s { s with H := s.H ++ [.tok es.length], sl := (u, .own s.H.length sz es) :: s.sl } := by
  intro e a hs
  have hv := hu e _ (hs.slots u)
  obtain ⟨e', k1, k2, le, k4, k5, k6⟩ := sim_tok hs es.length
  refine ⟨e', k1, k6.size, fun t => ?_, k6.defers, k6.H, k6.ok, k6.fr⟩
  simp only [sget]
  cases hb : u == t with
  | false => exact k6.slots t
  | true =>
    have : u = t := by simpa using hb
    subst this
    have hv' := Rep.mono le _ hv
    simp only [cond_true]
    rw [Rep] at hv'
    obtain ⟨ad, len, h1, h2, h3, h4, h5⟩ := hv'
    rw [Rep]
    exact ⟨ad, len, len, h1, h2, Nat.le_refl _, h3, h4, h5, by rw [k4]; simp, ⟨es.length, by unfold Env.T; rw [k4]; simp [tokOf], Nat.le_refl _⟩, fun _ _ _ h => absurd h (Nat.lt_irrefl _)⟩
end Go.Ab

namespace Go.Ab
variable [Tabs]

theorem less_bot {e : Env} {a : AV} {v : Value} (h : Less a bot) (k : Rep e a v) : False := rep_bot (h _ _ k)

section
variable {c : Ctx} {Q : AExit → St → Prop} {s : St}
theorem sim_bot {e : Env} {a : Act} (hs : Sim c s e a) {t : Nat} (h : Less (sget s.sl t) bot) : False := less_bot h (hs.slots t)
theorem aw_bot (t : Nat) {code : Code} (h : Less (sget s.sl t) bot) : AWP c code Q s := fun _ _ hs => (sim_bot hs h).elim
end

section
variable {P : Program} {r : Option Nat} {H : List AObj} {ρ : Operand → AV} {o : Oper}
theorem ev_bot {v : AV} (x : Operand) (hx : x ∈ o.op.operands.toList) (h : Less (ρ x) bot) : Ev P r o H ρ v := fun e a _ _ _ _ hs _ => (less_bot h (hs x hx)).elim
end

section
variable {c : Ctx} {Q : AExit → St → Prop} {H : List AObj} {df : List ADef} {ρ : Operand → AV} {o : Oper}
theorem eff_bot {v : AV} {H' : List AObj} (x : Operand) (hx : x ∈ o.op.operands.toList) (h : Less (ρ x) bot) : Eff c Q o H df ρ v H' := fun s _ _ hop e a hs K _ => by
  have h1 := hs.op x
  rw [hop x hx] at h1
  exact (less_bot h h1).elim

/-- a call that gives up -/
theorem pan_call {d : Option Tmp} {t : TypeId} {p : String} {af : Array Edge} {x : Operand} {as : Array Operand} {ats : Array TypeId} {f : FuncId} {first cap args : List AV} {R : ARes → Prop}
    (he : Ent c.P f) (hx : Less (ρ x) (.fn (.func f) first cap)) (ha : LessL (first ++ as.toList.map ρ ++ cap) args) (hc : APan c.P f args R) (hr : ∀ v, ¬ R (.ret v))
    (hq : ∀ v (s : St), R (.pan v) → s.df = df → Q (.panic v) s) : PanOK c Q ⟨d, .call ⟨.value x, as, ats⟩, t, p, af, none⟩ df ρ := by
  intro s hdf hop e a hs K
  have hxe : s.op x = ρ x := hop x (by simp [Op.operands, Call.operands])
  have hase : as.toList.map s.op = as.toList.map ρ := List.map_congr_left fun y hy => hop y (by simp [Op.operands, Call.operands]; exact .inr (by simpa using hy))
  have hxr := hx e _ (by rw [← hxe]; exact hs.op x)
  rw [Rep] at hxr
  obtain ⟨fv, cv, hfv, h1, h2⟩ := hxr
  have h3 : RepL e (as.toList.map ρ) (as.toList.map a.eval) := by rw [← hase]; exact RepL.mapped fun y _ => hs.op y
  refine ⟨about_FW _ _ _ _ _, ?_⟩
  show Oper.uponIn (FW c.r) 0 c.P _ a K (lift c Q) ((Oper.semAt c.r a.eval ⟨d, .call ⟨.value x, as, ats⟩, t, p, af, none⟩).run c.P e.w)
  rw [semAt_of (by intro c h; cases h), run_callop hfv he]
  refine ⟨fun h => by simp [FW] at h, ?_⟩
  have := hc s.H e (fv ++ as.map a.eval ++ cv) hs.ok hs.H (ha.rep (by simpa using (h1.append h3).append h2))
  refine CallsIn.mono (F := FW c.r) (n := 0) this ?_
  rintro y w' ⟨ax, e', rfl, ok, fr, ⟨hH1, hR⟩, hend⟩
  have hs1 := hs.after ok fr
  cases ax with
  | ret v => exact absurd hR (hr v)
  | pan v =>
    obtain ⟨u, rfl, hu⟩ := hend
    exact ⟨.panic v, _, e', hq v { s with H := e'.H } hR hdf, rfl, hs1, u, rfl, hu⟩
end

/-- a cell that holds nil, among others: a slice of its own, to grow -/
theorem sub_token_cell {c : Ctx} {s : St} (b sz : Nat) (l1 l2 : List AV) (hb : s.H[b]? = some (.cells (l1 ++ .raw (.slice none 0 0) :: l2))) : Sub c s { s with H := s.H.set b (.cells (l1 ++ .own s.H.length sz [] :: l2)) ++ [.tok 0] } := by
  have h1 : Sub c s { s with H := s.H ++ [.tok 0] } := fun e a hs => by
    obtain ⟨e', k1, _, _, _, _, k2⟩ := sim_tok hs 0; exact ⟨e', k1, k2⟩
  have hl := lt_of_get? hb
  have h2 : Sub c { s with H := s.H ++ [.tok 0] } { s with H := (s.H ++ [AObj.tok 0]).set b (.cells (l1 ++ .own s.H.length sz [] :: l2)) } :=
    sub_recell (s := { s with H := s.H ++ [AObj.tok 0] }) (l := l1 ++ .raw (.slice none 0 0) :: l2) (l' := l1 ++ .own s.H.length sz [] :: l2) (by rw [List.getElem?_append_left hl]; exact hb) fun e a hs vs hv => by
      have hown : ∀ v, Rep e (.raw (.slice none 0 0)) v → Rep e (.own s.H.length sz []) v := fun v h2 => by
        rw [Rep] at h2
        rw [Rep, h2]
        exact ⟨none, 0, 0, rfl, rfl, Nat.le_refl _, fun _ => rfl, by simp, fun ad h => (by cases h), by rw [hs.H]; simp, ⟨0, by unfold Env.T; rw [hs.H]; simp [tokOf], Nat.le_refl _⟩, fun _ ad h => (by cases h)⟩
      clear h1 hb
      induction l1 generalizing vs with
      | nil =>
        simp only [List.nil_append] at hv ⊢
        rw [RepL] at hv ⊢
        obtain ⟨v, rest, h1, h2, h3⟩ := hv
        exact ⟨v, rest, h1, hown v h2, h3⟩
      | cons x l1 ih =>
        simp only [List.cons_append] at hv ⊢
        rw [RepL] at hv ⊢
        obtain ⟨v, rest, h1, h2, h3⟩ := hv
        exact ⟨v, rest, h1, h2, ih rest h3⟩
  have h3 := h1.trans h2
  rwa [List.set_append_left _ _ hl] at h3
end Go.Ab

namespace Go.Ab
variable [Tabs]
section
variable {P : Program} {r : Option Nat} {H : List AObj} {ρ : Operand → AV}
variable {d : Option Tmp} {t : TypeId} {p : String} {af : Array Edge} {g : Option (Nat × Bool)} {x y : Operand}
theorem ev_bool2 {op : BinOp} {a b : Bool} {xt yt : TypeId} {v : AV} (hx : Less (ρ x) (.raw (.bool a))) (hy : Less (ρ y) (.raw (.bool b)))
    (hr : ∀ w e, ∃ u, (binOp op xt (.bool a) (.bool b)).run P w = .ok u w ∧ Rep e v u) : Ev P r ⟨d, .binOp op xt x y yt, t, p, af, g⟩ H ρ v :=
  Ev.pure (by intro c h; cases h) fun e ρc _ _ hs => by
    have e1 := rep_raw hx (hs x (by simp [Op.operands]))
    have e2 := rep_raw hy (hs y (by simp [Op.operands]))
    obtain ⟨u, h1, h2⟩ := hr e.w e
    refine ⟨u, ?_, h2⟩
    have hg : (eqGuard op xt x y (.bool a) (.bool b)).run P e.w = .ok () e.w := by
      unfold eqGuard; split <;> simp
    simp [execOp, e1, e2, hg, h1]
theorem ev_eqlB {a b : Bool} {xt yt : TypeId} (ht : P.underlying xt = some .bool) (hx : Less (ρ x) (.raw (.bool a))) (hy : Less (ρ y) (.raw (.bool b))) :
    Ev P r ⟨d, .binOp .eql xt x y yt, t, p, af, g⟩ H ρ (.raw (.bool (a == b))) :=
  ev_bool2 hx hy fun w e => ⟨_, run_eql_bool w xt a b ht, by rw [Rep]⟩
theorem ev_neqB {a b : Bool} {xt yt : TypeId} (ht : P.underlying xt = some .bool) (hx : Less (ρ x) (.raw (.bool a))) (hy : Less (ρ y) (.raw (.bool b))) :
    Ev P r ⟨d, .binOp .neq xt x y yt, t, p, af, g⟩ H ρ (.raw (.bool (!(a == b)))) :=
  ev_bool2 hx hy fun w e => ⟨_, run_neq_bool w xt a b ht, by rw [Rep]⟩
end
end Go.Ab

namespace Go.Ab
variable [Tabs]
/-- the cells that 'make' lays for so many elements -/
def makeB (P : Program) (t : TypeId) (n : Nat) : Option (List Value) :=
  match P.underlying t with
  | some (.slice e) => match P.info? e with
    | some i => match i.zero with
      | some z => if Nat.ble (i.bytes * n) 281474976710656 = true ∧ (madeCells z.cells (n * i.size)).toList.all isCell = true then some (madeCells z.cells (n * i.size)).toList else none
      | none => none
    | none => none
  | _ => none
theorem makeB_ex {P : Program} {t : TypeId} {n : Nat} {cs : List Value} (h : makeB P t n = some cs) :
    ∃ e i z, P.underlying t = some (.slice e) ∧ P.info? e = some i ∧ i.zero = some z ∧ i.bytes * n ≤ 281474976710656 ∧ (madeCells z.cells (n * i.size)).toList = cs ∧ cs.all isCell = true := by
  unfold makeB at h
  split at h
  · rename_i e h1
    split at h
    · rename_i i h2
      split at h
      · rename_i z h3
        split at h
        · rename_i h4
          simp only [Option.some.injEq] at h
          exact ⟨e, i, z, h1, h2, h3, Nat.le_of_ble_eq_true h4.1, h, by rw [← h]; exact h4.2⟩
        · cases h
      · cases h
    · cases h
  · cases h
section seq
variable {c : Ctx} {ops : Array Oper} {Q : AExit → St → Prop} {rest : List Oper} {s : St} {i : Nat}
variable {d : Option Tmp} {t : TypeId} {p : String} {af : Array Edge}
theorem sq_make {st : TypeId} {x y : Operand} {n : Nat} {cs : List Value} (hd : dOK c.nt d = true) (hf : makeB c.P st n = some cs) (hn : n ≤ 1000000)
    (hx : Less (s.op x) (.raw (.int .i64 n))) (hy : Less (s.op y) (.raw (.int .i64 n)))
    (k : SeqWP c ops Q (i + 1) rest (St.put { s with H := s.H ++ [.cells (cs.map .raw)] } d (.msl s.H.length 0 n n))) :
    SeqWP c ops Q i (⟨d, .makeSlice st x y, t, p, af, none⟩ :: rest) s := by
  refine sq_op fun e ac hs next hn' => ?_
  have hu := rep_raw hx (hs.op x)
  have hv := rep_raw hy (hs.op y)
  obtain ⟨et, ti, z, k1, k2, k3, k4, k5, k6⟩ := makeB_ex hf
  have hrun := run_make (P := c.P) e.w st et ti z k1 k2 k3 .i64 .i64 (n : Int) (n : Int) (by omega) (Int.le_refl _) (by rw [← Int.natCast_mul]; omega) (by omega)
  simp only [Int.toNat_natCast] at hrun
  have hrl : RepL e (cs.map .raw) (madeCells z.cells (n * ti.size)).toList := by rw [k5]; exact RepL.raws cs
  have hcell : ∀ q ∈ (madeCells z.cells (n * ti.size)).toList, isCell q = true := by
    rw [k5]; exact fun q hq => List.all_eq_true.1 k6 q hq
  have hs2 := hs.push (push_cells (t := et) hs.ok hrl hcell)
  refine ⟨about_FW _ _ _ _ _, ?_⟩
  show Oper.uponIn (FW c.r) 0 c.P _ ac next (lift c Q) (((Oper.semAt c.r ac.eval ⟨d, .makeSlice st x y, t, p, af, none⟩)).run c.P e.w)
  rw [semAt_of (by intro c h; cases h)]
  have hex : (execOp ac.eval ⟨d, .makeSlice st x y, t, p, af, none⟩).run c.P e.w = ((Instr.makeSlice st (.int .i64 n) (.int .i64 n)).run c.P e.w).andThen fun v w'' => .ok (.value v) w'' := by
    simp [execOp, hu, hv]
  rw [hex, hrun]
  refine hn' _ _ _ k (hs2.put hd ?_)
  rw [Rep]
  refine ⟨?_, ?_, e.w.heap.size, ?_, by simp, Nat.le_refl _⟩
  · simp [Env.push, hs.H]
  · simp [Env.T, Env.push, hs.H, tokOf]
  · simp [Env.push, hs.H]
end seq
end Go.Ab

namespace Go.Ab
open Go.ChangeShapes Go.WideShapes
variable [Tabs]

/-- shapes of data: numbers, truth values, strings, structs and arrays of these, slices of what holds no slices -/
inductive Sh where
  | int (k : IntKind)
  | bool
  | str
  | unit
  | two (a b : Sh)
  | sl (s : Sh)

def Sh.den : Sh → Type
  | .int _ => Int
  | .bool => Bool
  | .str => List UInt8
  | .unit => Unit
  | .two a b => a.den × b.den
  | .sl s => List s.den
def Sh.size : Sh → Nat
  | .int _ => 1
  | .bool => 1
  | .str => 1
  | .sl _ => 1
  | .unit => 0
  | .two a b => a.size + b.size
def Sh.flat : Sh → Bool
  | .int _ => true
  | .bool => true
  | .str => true
  | .unit => true
  | .sl _ => false
  | .two a b => a.flat && b.flat
def Sh.av : (s : Sh) → s.den → List AV
  | .int k, n => [.raw (.int k n)]
  | .bool, b => [.raw (.bool b)]
  | .str, l => [S l]
  | .unit, _ => []
  | .two a b, x => a.av x.1 ++ b.av x.2
  | .sl s, x => [.sl s.size (x.map s.av)]
/-- the value as one -/
def Sh.one : (s : Sh) → s.den → AV
  | .int k, n => .raw (.int k n)
  | .bool, b => .raw (.bool b)
  | .str, l => S l
  | .unit, _ => .agg []
  | .two a b, x => .agg (a.av x.1 ++ b.av x.2)
  | .sl s, x => .sl s.size (x.map s.av)
theorem Sh.av_len : (s : Sh) → (x : s.den) → (s.av x).length = s.size
  | .int _, _ => rfl
  | .bool, _ => rfl
  | .str, _ => rfl
  | .unit, _ => rfl
  | .sl _, _ => rfl
  | .two a b, x => by simp only [Sh.av, Sh.size, List.length_append, a.av_len x.1, b.av_len x.2]

def fsSh (P : Program) (g : TypeId → Option Sh) : List Field → Nat → Option Sh
  | [], _ => some .unit
  | f :: r, o => match g f.type, fsSh P g r (o + P.cellsOf f.type) with
    | some a, some b => if f.offset = o ∧ P.cellsOf f.type = a.size then some (.two a b) else none
    | _, _ => none
def arSh (a : Sh) : Nat → Sh
  | 0 => .unit
  | n + 1 => .two a (arSh a n)
/-- a type's shape -/
def shOf (P : Program) : Nat → TypeId → Option Sh
  | 0, _ => none
  | n + 1, t => match P.underlying t with
    | some (.int k) => some (.int k)
    | some .bool => some .bool
    | some .string => some .str
    | some (.slice e) => match shOf P n e with
      | some s => if s.flat = true ∧ P.cellsOf e = s.size then some (.sl s) else none
      | none => none
    | some (.struct fs) => match fsSh P (shOf P n) fs.toList 0 with
      | some s => if P.cellsOf t = s.size then some s else none
      | none => none
    | some (.array m e) => match shOf P n e with
      | some s => if P.cellsOf e = s.size ∧ P.cellsOf t = (arSh s m).size then some (arSh s m) else none
      | none => none
    | _ => none

/-- the memory as it is met: nothing in it is written to -/
def env0 (w : World) : Env := { H := [], μ := fun _ => none, G := fun b => match w.heap[b]? with | some (.cells cs _ _) => cs.size | _ => 0, w := w }

theorem env0_lt {w : World} {b off : Nat} {v : Value} (h : w.cell? ⟨b, off, none⟩ = some v) : off < (env0 w).G b := by
  unfold World.cell? at h
  simp only [env0]
  split at h
  · rename_i c t f hb
    simp only [hb]
    simp only [Option.isSome_none, Bool.false_eq_true, if_false] at h
    exact (Array.getElem?_eq_some_iff.1 h).1
  · cases h

theorem env0_ok {w : World} (h : Tabs.is w) (hb : ∀ b, Tabs.blk b → b < w.heap.size) : EnvOK (env0 w) :=
  ⟨fun b hb => by have hb' : w.heap.size ≤ b := hb
                  have : w.heap[b]? = none := by simpa using hb'
                  simp [env0, this], fun i o h => by simp [env0] at h, fun i j b hi => by simp [env0] at hi, fun i b hi => by simp [env0] at hi, h, fun b hk => ⟨hb b hk, fun i hi => by simp [env0] at hi⟩⟩

theorem cells_read {w : World} {b : Nat} : ∀ {l : List AV} {vs : List Value} {off : Nat}, RepL (env0 w) l vs → (∀ c ∈ vs, isCell c = true) → (∀ i, i < vs.length → w.cell? ⟨b, off + i, none⟩ = vs[i]?) → CellsAt (env0 w) l b off
  | [], _, _, _, _, _ => by rw [CellsAt]; trivial
  | a :: l, _, off, h, h1, hc => by
    rw [RepL] at h; obtain ⟨v, rest, rfl, h2, h3⟩ := h
    have c0 : w.cell? ⟨b, off, none⟩ = some v := by simpa using hc 0 (by simp)
    rw [CellsAt]
    refine ⟨⟨env0_lt c0, v, c0, h2, h1 v (by simp)⟩, cells_read h3 (fun c hm => h1 c (List.mem_cons_of_mem _ hm)) fun i hi => ?_⟩
    have := hc (i + 1) (by simp; omega)
    rw [show off + 1 + i = off + (i + 1) by omega]; simpa using this

abbrev Unspot (cs : List Value) : Prop := ∀ c ∈ cs, ∀ a len cap, c = .slice (some a) len cap → a.spot = none

section
variable {H : Type} {enc : TypeId × Value → H} {P : Program} {w : World} {base : Nat} {spare : Nat → Bool} {held : Bool}

theorem fs_read {g : TypeId → Option Sh} {cs : List Value}
    (ih : ∀ {t : TypeId} {s : Sh} {k : Nat} {cs : List Value} {x : DataW H × List MemPlace}, g t = some s → DataW.trod enc P w base spare held k t cs = some x → (s.flat = true ∨ Unspot cs) → ∃ y : s.den, RepL (env0 w) (s.av y) cs ∧ ∀ c ∈ cs, isCell c = true) :
    ∀ {fs : List Field} {o : Nat} {s : Sh}, fsSh P g fs o = some s → (s.flat = true ∨ Unspot cs) → cs.length = o + s.size →
      (∀ f ∈ fs, ∃ (k : Nat) (x : DataW H × List MemPlace), DataW.trod enc P w base spare held k f.type ((cs.drop f.offset).take (P.cellsOf f.type)) = some x) → ∃ y : s.den, RepL (env0 w) (s.av y) (cs.drop o) ∧ ∀ c ∈ cs.drop o, isCell c = true
  | [], o, s, h, _, hl, _ => by
    simp only [fsSh, Option.some.injEq] at h; subst h
    have : cs.drop o = [] := List.drop_eq_nil_of_le (by simp only [Sh.size] at hl; omega)
    rw [this]; exact ⟨(), RepL.nil, by simp⟩
  | f :: r, o, s, h, hs, hl, hr => by
    unfold fsSh at h
    split at h
    · rename_i a b ha hb
      split at h
      · rename_i hc
        obtain ⟨ho, hcs⟩ := hc
        simp only [Option.some.injEq] at h; subst h
        obtain ⟨k, x, hx⟩ := hr f (by simp)
        rw [ho, hcs] at hx
        rw [hcs] at hb
        have hs1 : a.flat = true ∨ Unspot cs := hs.imp (fun h => by simp only [Sh.flat, Bool.and_eq_true] at h; exact h.1) id
        have hs2 : b.flat = true ∨ Unspot cs := hs.imp (fun h => by simp only [Sh.flat, Bool.and_eq_true] at h; exact h.2) id
        obtain ⟨y1, r1, c1⟩ := ih ha hx (hs1.imp id fun hu c hm => hu c (List.mem_of_mem_drop (List.mem_of_mem_take hm)))
        obtain ⟨y2, r2, c2⟩ := fs_read ih hb hs2 (by simp only [Sh.size] at hl; omega) (fun q hq => hr q (List.mem_cons_of_mem _ hq))
        have e : cs.drop o = (cs.drop o).take a.size ++ cs.drop (o + a.size) := by
          rw [← List.drop_drop]; exact (List.take_append_drop _ _).symm
        rw [e]
        refine ⟨(y1, y2), RepL.append r1 r2, fun c hm => ?_⟩
        rcases List.mem_append.1 hm with h | h
        · exact c1 c h
        · exact c2 c h
      · cases h
    · cases h

theorem ar_read {s : Sh} {e : TypeId} {cs : List Value} (hcs : P.cellsOf e = s.size)
    (ih : ∀ {k : Nat} {cs : List Value} {x : DataW H × List MemPlace}, DataW.trod enc P w base spare held k e cs = some x → (s.flat = true ∨ Unspot cs) → ∃ y : s.den, RepL (env0 w) (s.av y) cs ∧ ∀ c ∈ cs, isCell c = true) :
    ∀ {m j : Nat}, ((arSh s m).flat = true ∨ Unspot cs) → cs.length = j * s.size + (arSh s m).size →
      (∀ i, i < j + m → ∃ (k : Nat) (x : DataW H × List MemPlace), DataW.trod enc P w base spare held k e ((cs.drop (i * P.cellsOf e)).take (P.cellsOf e)) = some x) → ∃ y : (arSh s m).den, RepL (env0 w) ((arSh s m).av y) (cs.drop (j * s.size)) ∧ ∀ c ∈ cs.drop (j * s.size), isCell c = true
  | 0, j, _, hl, _ => by
    have : cs.drop (j * s.size) = [] := List.drop_eq_nil_of_le (by simp only [arSh, Sh.size] at hl; omega)
    rw [this]; exact ⟨(), RepL.nil, by simp⟩
  | m + 1, j, hs, hl, hr => by
    obtain ⟨k, x, hx⟩ := hr j (by omega)
    rw [hcs] at hx
    have hs1 : s.flat = true ∨ Unspot cs := hs.imp (fun h => by simp only [arSh, Sh.flat, Bool.and_eq_true] at h; exact h.1) id
    have hs2 : (arSh s m).flat = true ∨ Unspot cs := hs.imp (fun h => by simp only [arSh, Sh.flat, Bool.and_eq_true] at h; exact h.2) id
    obtain ⟨y1, r1, c1⟩ := ih hx (hs1.imp id fun hu c hm => hu c (List.mem_of_mem_drop (List.mem_of_mem_take hm)))
    obtain ⟨y2, r2, c2⟩ := ar_read hcs ih (m := m) (j := j + 1) hs2 (by simp only [arSh, Sh.size] at hl; rw [Nat.add_mul]; omega) (fun i hi => hr i (by omega))
    have e : cs.drop (j * s.size) = (cs.drop (j * s.size)).take s.size ++ cs.drop ((j + 1) * s.size) := by
      rw [Nat.add_mul, Nat.one_mul, ← List.drop_drop]; exact (List.take_append_drop _ _).symm
    rw [e]
    refine ⟨(y1, y2), RepL.append r1 r2, fun c hm => ?_⟩
    rcases List.mem_append.1 hm with h | h
    · exact c1 c h
    · exact c2 c h

/-- **What a reading gives.** -/
theorem sh_read : ∀ (n : Nat) {t : TypeId} {s : Sh} {k : Nat} {cs : List Value} {x : DataW H × List MemPlace}, shOf P n t = some s → DataW.trod enc P w base spare held k t cs = some x → (s.flat = true ∨ Unspot cs) →
    ∃ y : s.den, RepL (env0 w) (s.av y) cs ∧ ∀ c ∈ cs, isCell c = true
  | 0, _, _, _, _, _, h, _, _ => by cases h
  | n + 1, t, s, k, cs, x, h, hx, hs => by
    unfold shOf at h
    split at h
    · rename_i ik hu
      simp only [Option.some.injEq] at h; subst h
      obtain ⟨m, rfl, _, _⟩ := DataW.trod_int hu hx
      exact ⟨m, RepL.cons (by rw [Rep]) RepL.nil, fun c hc => by simp at hc; subst hc; rfl⟩
    · rename_i hu
      simp only [Option.some.injEq] at h; subst h
      obtain ⟨m, rfl, _⟩ := DataW.trod_bool hu hx
      exact ⟨m, RepL.cons (by rw [Rep]) RepL.nil, fun c hc => by simp at hc; subst hc; rfl⟩
    · rename_i hu
      simp only [Option.some.injEq] at h; subst h
      obtain ⟨m, rfl, _, _⟩ := DataW.trod_string hu hx
      exact ⟨m.data.toList, RepL.cons (by rw [Rep]) RepL.nil, fun c hc => by simp at hc; subst hc; rfl⟩
    · rename_i e hu
      split at h
      · rename_i s1 he
        split at h
        · rename_i hc
          obtain ⟨hfl, hcs⟩ := hc
          simp only [Option.some.injEq] at h; subst h
          have hu1 : Unspot cs := hs.resolve_left (by simp [Sh.flat])
          rcases Go.Deep.open_slice hu hx with ⟨rfl, _⟩ | ⟨a, len, cap, m, n', D, Pl, rfl, hb, hl, hm, hmm, _, hi⟩
          · refine ⟨([] : List s1.den), RepL.cons ?_ RepL.nil, fun c hc => by simp at hc; subst hc; rfl⟩
            show Rep _ (.sl s1.size []) _
            rw [Rep]
            exact ⟨none, 0, 0, rfl, rfl, Nat.le_refl _, fun _ => rfl, by simp, fun ad h => by cases h⟩
          · have hsp : a.spot = none := hu1 _ (by simp) a len cap rfl
            obtain ⟨b, off, sp⟩ := a
            simp only at hsp; subst hsp
            have hlm : len ≤ m := by rw [hmm]; split <;> omega
            have key : ∀ q, q ≤ len → ∃ ys : List s1.den, ys.length = q ∧ ElemsAt (env0 w) (ys.map s1.av) b off := by
              intro q
              induction q with
              | zero => intro _; exact ⟨[], rfl, by rw [List.map_nil, ElemsAt]; trivial⟩
              | succ q ihq =>
                intro hq
                obtain ⟨ys, hy, hel⟩ := ihq (by omega)
                obtain ⟨cs', hc, ht'⟩ := hi q (by omega)
                obtain ⟨z, hz, hz1⟩ := sh_read n he ht' (.inl hfl)
                obtain ⟨_, hcl, hat⟩ := World.cells?_some hc
                refine ⟨ys ++ [z], by simp [hy], ?_⟩
                rw [List.map_append]
                refine ElemsAt.append (sz := s1.size) hel (fun c hm => by obtain ⟨u, _, rfl⟩ := List.mem_map.1 hm; exact s1.av_len u) ?_
                rw [List.map_cons, List.map_nil, ElemsAt, ElemsAt]
                refine ⟨cells_read hz hz1 fun i hi => ?_, trivial⟩
                rw [List.length_map, hy]
                have hthis := hat (i := i) (by omega)
                rw [Addr.add_lit, Addr.add_lit, hcs] at hthis
                exact hthis
            obtain ⟨ys, hy, hel⟩ := key len (Nat.le_refl _)
            refine ⟨ys, RepL.cons ?_ RepL.nil, fun c hc => by simp at hc; subst hc; rfl⟩
            rw [Rep]
            exact ⟨some ⟨b, off, none⟩, len, cap, rfl, by simp [hy], hl, fun h => (by cases h), fun c hm => by obtain ⟨u, _, rfl⟩ := List.mem_map.1 hm; exact s1.av_len u, fun ad had => by cases had; exact ⟨rfl, hel⟩⟩
        · cases h
      · cases h
    · rename_i fs hu
      split at h
      · rename_i s1 hf
        split at h
        · rename_i hc
          simp only [Option.some.injEq] at h; subst h
          obtain ⟨xs, n', _, _, hlen, hxl, hfx⟩ := DataW.trod_struct hu hx
          have := fs_read (g := shOf P n) (cs := cs) (fun h1 h2 h3 => sh_read n h1 h2 h3) hf hs (by omega) (fun f hm => by
            obtain ⟨i, hi, he⟩ := List.getElem_of_mem hm
            have hi' : i < xs.length := by rw [hxl]; simpa using hi
            exact ⟨n', xs[i], (hfx i f (by rw [← he]; simp)).trans (List.getElem?_eq_getElem hi')⟩)
          simpa using this
        · cases h
      · cases h
    · rename_i m e hu
      split at h
      · rename_i s1 he
        split at h
        · rename_i hc
          obtain ⟨hcs, hct⟩ := hc
          simp only [Option.some.injEq] at h; subst h
          obtain ⟨xs, n', _, _, hlen, hxl, hfx⟩ := DataW.trod_array hu hx
          have := ar_read (s := s1) (e := e) (cs := cs) hcs (fun h2 h3 => sh_read n he h2 h3) (m := m) (j := 0) hs (by omega) (fun i hi => by
            have hi' : i < xs.length := by omega
            exact ⟨n', xs[i], (hfx i (by omega)).trans (List.getElem?_eq_getElem hi')⟩)
          simpa using this
        · cases h
      · cases h
    · cases h

theorem spot_ok {r : Reach} {b0 : Nat} {t : TypeId} {a : Addr} {len cap : Nat} (h : Cell.okWide P w r b0 t (.slice (some a) len cap)) : a.spot = none := by
  unfold Cell.okWide at h
  split at h <;> first | (rename_i h1 h2; cases h2; done) | skip
  all_goals (unfold Cell.ok at h; split at h <;> first | (rename_i h1 h2; cases h2; done) | skip)
  all_goals first | (rename_i h2; cases h2; exact h.2.2.2.1) | skip
  all_goals first | exact h.elim | skip

theorem unspot_ok {r : Reach} {b0 : Nat} {t : TypeId} {v : Value} (h : Value.okWide P w r b0 t v) : Unspot v.cells.toList := by
  intro c hc a len cap he
  subst he
  unfold Value.okWide at h
  have row : ∀ cs : Array Value, v = .agg cs → Row.okWide P w r b0 t cs → a.spot = none := by
    rintro cs rfl ⟨ts, _, _, hr⟩
    obtain ⟨i, hi, he⟩ := List.getElem_of_mem hc
    have hi' : i < cs.size := by simpa [Value.cells] using hi
    have he' : cs[i] = .slice (some a) len cap := by simpa [Value.cells] using he
    obtain ⟨u, _, hu⟩ := hr i _ ((Array.getElem?_eq_getElem hi').trans (congrArg some he'))
    exact spot_ok hu
  have cell : Cell.okWide P w r b0 t v → a.spot = none := fun h => by
    cases v <;> first
      | (simp [Value.cells] at hc; obtain ⟨rfl, rfl, rfl⟩ := hc; exact spot_ok h)
      | (simp [Value.cells] at hc; done)
      | (exfalso; unfold Cell.okWide at h; split at h <;> first | (rename_i h1 h2; cases h2; done) | (unfold Cell.ok at h; split at h <;> first | (rename_i h1 h2; cases h2; done) | exact h))
  split at h
  · obtain ⟨cs, h1, _, h2⟩ := h; exact row cs h1 h2
  · obtain ⟨cs, h1, _, h2⟩ := h; exact row cs h1 h2
  · exact cell h

/-- an argument, by its type's shape -/
theorem sh_arg (n : Nat) {t : TypeId} {s : Sh} {r : Reach} {b0 : Nat} {v : Value} {d : DataW H} {ps : List MemPlace} (hs : shOf P n t = some s) (hv : Value.okWide P w r b0 t v) (h : DataW.Trod enc P w base spare held t v d ps) :
    ∃ y : s.den, RepL (env0 w) (s.av y) v.cells.toList ∧ ∀ c ∈ v.cells.toList, isCell c = true := by
  obtain ⟨k, hk⟩ := h
  exact sh_read n hs hk (.inr (unspot_ok hv))

theorem arg_agg {t : TypeId} {r : Reach} {b0 : Nat} {v : Value} {l : List AV} (hu : (∃ fs, P.underlying t = some (.struct fs)) ∨ ∃ n e, P.underlying t = some (.array n e)) (hv : Value.okWide P w r b0 t v)
    (h : RepL (env0 w) l v.cells.toList ∧ ∀ c ∈ v.cells.toList, isCell c = true) : Rep (env0 w) (.agg l) v := by
  have : ∃ cs, v = .agg cs := by
    unfold Value.okWide at hv
    rcases hu with ⟨fs, hu⟩ | ⟨n, e, hu⟩ <;> rw [hu] at hv <;> (obtain ⟨cs, h, _⟩ := hv; exact ⟨cs, h⟩)
  obtain ⟨cs, rfl⟩ := this
  rw [Rep]; exact ⟨cs, rfl, h.1, h.2⟩

/-- a value that is no row of cells -/
def oneV : Value → Bool
  | .agg _ => false
  | .tuple _ => false
  | _ => true
theorem oneV_cells {v : Value} (h : oneV v = true) : v.cells.toList = [v] := by cases v <;> first | rfl | cases h
theorem arg_one {v : Value} {a : AV} (hv : oneV v = true) (h : RepL (env0 w) [a] v.cells.toList ∧ ∀ c ∈ v.cells.toList, isCell c = true) : Rep (env0 w) a v := by
  have h := h.1
  rw [oneV_cells hv, RepL] at h
  obtain ⟨u, rest, e, h2, _⟩ := h
  cases e; exact h2

theorem trodAll_stays (hl : laidOutB P = true) {W W' : World} (hheap : ∀ b, b < W.heap.size → W'.heap[b]? = W.heap[b]?) {sp' : Nat → Bool} :
    ∀ {ts : List TypeId} {vs : List Value} {ds : List (DataW H)} {ps : List MemPlace}, (∀ t ∈ ts, P.readableRec t = true ∧ t < P.types.size) → DataW.TrodAll enc P W base (fun _ => true) true ts vs ds ps → (∀ p ∈ ps, p.block < W.heap.size) → (∀ p ∈ ps, sp' p.block = true) →
      DataW.TrodAll enc P W' base sp' true ts vs ds ps
  | [], _, _, _, _, h, _, _ => by
    obtain ⟨rfl, rfl, rfl⟩ := trodAll_nil h
    exact trodAll_mk0
  | t :: ts, _, _, _, ht, h, hlt, hs => by
    obtain ⟨v, vs1, d, ds1, a, b, rfl, rfl, rfl, h1, h2⟩ := trodAll_cons h
    refine trodAll_cons_mk (WideElems.Trod_stays hl (ht t (by simp)).1 (ht t (by simp)).2 h1 (fun p hp => ?_) (fun p hp => hs p (by simp [hp]))) (trodAll_stays hl hheap (fun u hu => ht u (List.mem_cons_of_mem _ hu)) h2 (fun p hp => hlt p (by simp [hp])) (fun p hp => hs p (by simp [hp])))
    have hb := hheap p.block (hlt p (by simp [hp]))
    cases p with
    | cell b o => exact cell?_of_heap hb
    | map b => exact hb

/-- **What a law's row asks of a call that returns true and leaves what it met.** -/
theorem post_true {f : Func} {s : ChangeSpec} {W W' : World} {args : Array Value} {ds gs : List (DataW H)} {before : List MemPlace} {tb : TypeId} (hl : laidOutB P = true) (hread : ∀ t ∈ f.params.toList, P.readableRec t = true ∧ t < P.types.size)
    (hres : f.resultTypes = #[tb]) (htb : P.underlying tb = some .bool) (hvars : s.vars = []) (hspec : (s.fn H ds).results = [.lit (.bool true)] ∧ (s.fn H ds).args = ds ∧ (s.fn H ds).vars = [])
    (hW : DataW.Whole enc P f.params.toList s.vars false W args.toList ds gs before) (hheap : ∀ b, b < W.heap.size → W'.heap[b]? = W.heap[b]?) (hst : Still W W') :
    s.post enc P f false true false false W args (.bool true) W' := by
  have hlt := hW.lt
  have hW0 := hW
  obtain ⟨p, q, h1, h2, rfl, _, _⟩ := hW
  rw [hvars] at h2
  obtain ⟨rfl, rfl⟩ := trodVars_none h2
  simp only [List.append_nil] at hlt
  obtain ⟨e1, e2, e3⟩ := hspec
  refine ⟨ds, [], p ++ [], [], p, [], hW0, ?_, ?_, ?_, ?_, fun h => by cases h⟩
  · rw [List.append_nil, e1, hres]
    exact trodAll_cons_mk (RowKit.shut_bool htb _) trodAll_mk0
  · rw [List.append_nil, e2]
    exact trodAll_stays hl hheap hread h1 hlt (fun p hp => by simpa using hlt p hp)
  · rw [List.append_nil, e3, hvars]; rfl
  · refine ⟨hst.1, hst.2, fun i hi => ?_⟩
    rw [hheap i hi]
    split <;> simp_all

/-- a contract, of a call -/
theorem APure.law {f : FuncId} {args : List AV} {W : World} {vs : Array Value} (hc : APure P f args (.raw (.bool true))) (ht : Tabs.is W) (hb : ∀ b, Tabs.blk b → b < W.heap.size) (hr : RepL (env0 W) args vs.toList) :
    Calls P f vs W fun x W' => x = .returned (.bool true) ∧ (∀ b, b < W.heap.size → W'.heap[b]? = W.heap[b]?) ∧ Still W W' := by
  refine ((hc (env0 W) vs (env0_ok ht hb) hr).calls (fun k => FW_room none k)).mono ?_
  rintro x w' ⟨u, e', rfl, rfl, hx, hu⟩
  rw [Rep] at hu; subst hu
  exact ⟨rfl, hx.heap, hx.still⟩

end
end Go.Ab
