/-
  A part of the proof: conditions: none beyond each theorem's own.
-/
import Derived.Test.YtnbjaepkbabkhaaGreatLogicC
import Derived.Laws.RangeAny
import Derived.Laws.BytesArg
import Derived.Laws.Concat
import Derived.Sort.Grow
import Derived.Deep.Draws
import Derived.Lib.SplitLaws
import Derived.Laws.MakeOwn
import Derived.Deep.Slices
import Derived.OpenShut
import Derived.Carry
import Derived.IntWalk
import Derived.Laws.IdiomStrings
import Derived.Lib.UnsafeStr
import Derived.Lib.Builder
import Derived.Laws.Pointers
import Derived.Test.YtnbjaepkbabkhaaGreatLogicB
import Derived.RangeFuncNested
set_option linter.all false
namespace Go.Ab
variable [Tabs]
theorem lookP {H0 X : List AObj} {m : Nat} {o : AObj} (h : X[m]? = some o) : (H0 ++ X)[H0.length + m]? = some o := by
  rw [List.getElem?_append_right (by omega), Nat.add_sub_cancel_left]; exact h
theorem lookL {H0 X : List AObj} {m : Nat} {o : AObj} (h : H0[m]? = some o) : (H0 ++ X)[m]? = some o := by
  rw [List.getElem?_append_left (lt_of_get? h)]; exact h
theorem setP {H0 X : List AObj} {m : Nat} {o : AObj} : (H0 ++ X).set (H0.length + m) o = H0 ++ X.set m o := by
  rw [List.set_append_right _ _ (by omega), Nat.add_sub_cancel_left]
theorem setL {H0 X : List AObj} {m : Nat} {o : AObj} (h : m < H0.length) : (H0 ++ X).set m o = H0.set m o ++ X := by
  rw [List.set_append_left _ _ h]
section seq
variable {c : Ctx} {ops : Array Oper} {Q : AExit → St → Prop} {rest : List Oper} {i : Nat} {H0 X : List AObj} {sl : List (Nat × AV)} {df : List ADef}
variable {d : Option Tmp} {t : TypeId} {p : String} {af : Array Edge}
theorem sq_allocP {bt : TypeId} {l : List AV} (hd : dOK c.nt d = true) (hz : zeroOf c.P bt = some l)
    (k : SeqWP c ops Q (i + 1) rest (St.put ⟨sl, H0 ++ (X ++ [.cells l]), df⟩ d (.ptr (H0.length + X.length) 0))) : SeqWP c ops Q i (⟨d, .alloc bt, t, p, af, none⟩ :: rest) ⟨sl, H0 ++ X, df⟩ := by
  refine sq_alloc hd hz ?_
  simp only [List.append_assoc, List.length_append]; exact k
theorem sq_boxP {bt : TypeId} {x : Operand} {a : AV} {l : List AV} (hd : dOK c.nt d = true) (hx : Less ((⟨sl, H0 ++ X, df⟩ : St).op x) a) (hl : a.cells = some l)
    (k : SeqWP c ops Q (i + 1) rest (St.put ⟨sl, H0 ++ (X ++ [.cells l]), df⟩ d (.ptr (H0.length + X.length) 0))) : SeqWP c ops Q i (⟨d, .box bt x, t, p, af, none⟩ :: rest) ⟨sl, H0 ++ X, df⟩ := by
  refine sq_box hd hx hl ?_
  simp only [List.append_assoc, List.length_append]; exact k
theorem sq_storeP {st : TypeId} {x y : Operand} {a : AV} {j off n : Nat} {bb : Bool} {l m : List AV} (hd : dOK c.nt d = true)
    (hx : Less ((⟨sl, H0 ++ X, df⟩ : St).op x) (.ptr (H0.length + j) off)) (hy : Less ((⟨sl, H0 ++ X, df⟩ : St).op y) a) (hm : a.cells = some m) (hj : X[j]? = some (.cells l)) (ht : tySz c.P st = some (bb, n)) (hn : Nat.beq m.length n = true) (hle : Nat.ble (off + n) l.length = true)
    (k : SeqWP c ops Q (i + 1) rest (St.put ⟨sl, H0 ++ X.set j (.cells (l.take off ++ m ++ l.drop (off + m.length))), df⟩ d .any)) : SeqWP c ops Q i (⟨d, .store st x y, t, p, af, none⟩ :: rest) ⟨sl, H0 ++ X, df⟩ := by
  refine sq_store hd hx hy hm (lookP hj) ht hn hle ?_
  simp only [setP]; exact k
theorem sq_storeL {st : TypeId} {x y : Operand} {a : AV} {j off n : Nat} {bb : Bool} {l m : List AV} (hd : dOK c.nt d = true)
    (hx : Less ((⟨sl, H0 ++ X, df⟩ : St).op x) (.ptr j off)) (hy : Less ((⟨sl, H0 ++ X, df⟩ : St).op y) a) (hm : a.cells = some m) (hj : H0[j]? = some (.cells l)) (ht : tySz c.P st = some (bb, n)) (hn : Nat.beq m.length n = true) (hle : Nat.ble (off + n) l.length = true)
    (k : SeqWP c ops Q (i + 1) rest (St.put ⟨sl, H0.set j (.cells (l.take off ++ m ++ l.drop (off + m.length))) ++ X, df⟩ d .any)) : SeqWP c ops Q i (⟨d, .store st x y, t, p, af, none⟩ :: rest) ⟨sl, H0 ++ X, df⟩ := by
  refine sq_store hd hx hy hm (lookL hj) ht hn hle ?_
  simp only [setL (lt_of_get? hj)]; exact k
end seq
section ev
variable {P : Program} {r : Option Nat} {H : List AObj} {ρ : Operand → AV}
variable {d : Option Tmp} {t : TypeId} {p : String} {af : Array Edge} {g : Option (Nat × Bool)} {x y : Operand}
theorem ev_nil_nil {xt yt : TypeId} (hu : P.underlying xt = some (.interface #[])) (hx : Less (ρ x) (.raw .nilIface)) (hy : Less (ρ y) (.raw .nilIface)) :
    Ev P r ⟨d, .binOp .eql xt x y yt, t, p, af, g⟩ H ρ (.raw (.bool true)) :=
  Ev.pure (by intro c h; cases h) fun e ρc ok hE hs => by
    have h1 := rep_raw hx (hs x (by simp [Op.operands]))
    have h3 := rep_raw hy (hs y (by simp [Op.operands]))
    refine ⟨.bool true, ?_, by rw [Rep]⟩
    have he : (Op.equal xt .nilIface .nilIface).run P e.w = .ok true e.w := by
      show (Op.equalIn (9999 + 1) xt .nilIface .nilIface).run P e.w = _
      rw [Op.equalIn]; simp [run_und hu]
    have hg0 : (Op.eqGuardIn Op.maxDepth xt .nilIface .nilIface).run P e.w = .ok false e.w := by
      show (Op.eqGuardIn (9999 + 1) xt .nilIface .nilIface).run P e.w = _
      rw [Op.eqGuardIn]; simp [run_und hu]
    have hg : (eqGuard .eql xt x y .nilIface .nilIface).run P e.w = .ok () e.w := by
      simp only [eqGuard]
      cases x <;> cases y <;> simp [hg0]
    have hb : (binOp .eql xt .nilIface .nilIface).run P e.w = .ok (.bool true) e.w := by
      show (do pure (.bool (← Op.equal xt .nilIface .nilIface)) : Sem Value).run P e.w = _
      simp [he]
    simp only [execOp, h1, h3]
    simp [hg, hb]
end ev
theorem ev_sl_nil_ne {P : Program} {r : Option Nat} {H : List AObj} {ρ : Operand → AV} {d : Option Tmp} {t : TypeId} {p : String} {af : Array Edge} {g : Option (Nat × Bool)} {x y : Operand} {xt yt et : TypeId} {sz : Nat} {es : List (List AV)} (ht : slElem P xt = some (et, sz))
    (hx : Less (ρ x) (.sl sz es)) (hne : 0 < es.length) (hy : Less (ρ y) (.raw (.slice none 0 0))) : Ev P r ⟨d, .binOp .eql xt x y yt, t, p, af, g⟩ H ρ (.raw (.bool false)) :=
  Ev.pure (by intro c h; cases h) fun e ρc ok hE hs => by
    obtain ⟨h1, _⟩ := slElem_und ht
    have hv := hx e _ (hs x (by simp [Op.operands]))
    rw [Rep] at hv
    obtain ⟨a, len, cap, hv, hlen, hle, hnil, _⟩ := hv
    obtain ⟨ad, rfl⟩ : ∃ ad, a = some ad := by
      cases a with
      | none => have := hnil rfl; omega
      | some ad => exact ⟨ad, rfl⟩
    have hw := rep_raw hy (hs y (by simp [Op.operands]))
    refine ⟨.bool false, ?_, by rw [Rep]⟩
    have he : (Op.equal xt (.slice (some ad) len cap) (.slice none 0 0)).run P e.w = .ok false e.w := by
      show (Op.equalIn (9999 + 1) xt _ _).run P e.w = _
      rw [Op.equalIn]; simp [run_und h1]
    have hg : (eqGuard .eql xt x y (.slice (some ad) len cap) (.slice none 0 0)).run P e.w = .ok () e.w := by simp [eqGuard]
    have hb : (binOp .eql xt (.slice (some ad) len cap) (.slice none 0 0)).run P e.w = .ok (.bool false) e.w := by
      show (do pure (.bool (← Op.equal xt (.slice (some ad) len cap) (.slice none 0 0))) : Sem Value).run P e.w = _
      simp [he]
    simp only [execOp, hv, hw]
    simp [hg, hb]
theorem aw_rangeFunc1 {c : Ctx} {Q : AExit → St → Prop} {s : St} {g : Operand} {p q id : Nat} {ty : TypeId} {pos : String} {af : Array Edge} {body : Code} {f : FuncId} {first caps xs : List AV} (T : Nat → List AObj) (m : Nat) (jump : Option Code)
    (hm : m ≤ xs.length) (hj : jump = none → m = xs.length) (hj' : jump ≠ none → 0 < m) (hjo : jumpOK jump = true) (hr : c.r = none) (hg : Less (s.op g) (.fn (.func f) first caps)) (he : Ent c.P f) (hit : AIter c.P f first caps xs)
    (hT0 : T 0 = s.H) (hlen : ∀ i, (T i).length = s.H.length) (hin : ∀ i, i ≤ m → objsIn s.H.length (T i) = true) (hpx : ∀ x ∈ xs, x.pureB = true) (hp : Nat.blt p c.nt = true) (hq : Nat.blt q c.nt = true)
    (hb : ∀ l i x e0, i < m → xs[i]? = some x → e0.H = T i → AWP ⟨c.P, some l, c.nt, e0⟩ body (fun ax s' => (∃ Y, s'.H = T (i + 1) ++ Y) ∧ s'.df = [] ∧ jumpEx (if i + 1 = m then jump else none) ax) ⟨(q, x) :: (p, x) :: s.sl, T i, []⟩)
    (k : ∀ ax, jumpEx jump ax → Q ax ⟨s.sl, T m ++ [.raw (.deferred (some []))], .mark s.H.length :: s.df⟩) :
    AWP c (.rangeFunc g #[p] (.region id [⟨some q, .assign (.tmp p), ty, pos, af, none⟩].toArray false) body) Q s :=
  aw_rangeFunc T m jump (fun _ x => (q, x) :: (p, x) :: s.sl) hm hj hj' hjo hr hg he hit hT0 hlen hin hpx hp
    (fun l i x e0 hi hx he0 => by
      refine aw_region ?_
      refine sq_ev hq (ev_as (v := x) (Less.eq (by simp [St.op, sget]))) ?_
      refine sq_nil ?_
      exact ⟨rfl, rfl⟩) hb k
theorem sub_recell {c : Ctx} {s : St} {b : Nat} {l l' : List AV} (hb : s.H[b]? = some (.cells l)) (h : ∀ e a, Sim c s e a → ∀ vs, RepL e l vs → RepL e l' vs) : Sub c s { s with H := s.H.set b (.cells l') } := by
  intro e a hs
  have hbe : e.H[b]? = some (.cells l) := by rw [hs.H]; exact hb
  have hbl := lt_of_get? hbe
  obtain ⟨e', he'⟩ : ∃ e' : Env, e' = { e with H := e.H.set b (.cells l') } := ⟨_, rfl⟩
  have hT : ∀ i, e'.T i = e.T i := fun i => by
    rw [he']; unfold Env.T; simp only
    by_cases hi : b = i
    · subst hi; rw [List.getElem?_set_self hbl, hbe]; rfl
    · rw [List.getElem?_set_ne hi]
  have le : e.Le e' := ⟨by rw [he']; simp, fun i hi ht => ⟨by rw [hT]; exact ht, fun q hq => by rw [he']; exact hq⟩, fun q off ho => by rw [he']; exact ⟨ho, rfl⟩, fun i m ht => ⟨m, by rw [hT]; exact ht, Nat.le_refl _, fun _ => ⟨by rw [he'], fun q cs t _ hh => by rw [he']; exact ⟨rfl, cs, hh, rfl⟩⟩⟩⟩
  refine ⟨e', by rw [he'], hs.size, fun t => Rep.mono le _ (hs.slots t), hs.defers.mono le, by rw [he', hs.H], ⟨by rw [he']; exact hs.ok.fresh, fun i o ho => ?_, fun i j q hi hj => ?_, fun i q hi => ?_, hs.ok.tabs.sub (by rw [he']) fun i q hi h1 => ⟨i, by rw [he'] at hi; simpa using hi, by rw [he'] at h1; exact h1⟩⟩, ⟨by rw [he']; exact hs.fr.size, by rw [he']; exact hs.fr.still, by rw [he']; exact hs.fr.heap, fun i q hi => ?_, hs.fr.le.trans le⟩⟩
  · by_cases hi : b = i
    · subst hi
      rw [he'] at ho; simp only [List.getElem?_set_self hbl, Option.some.injEq] at ho; subst ho
      obtain ⟨q, cs, t, k1, k2, k3, k4, k5⟩ := hs.ok.objs b _ hbe
      exact ⟨q, cs, t, by rw [he']; exact k1, by rw [he']; exact k2, by rw [he']; exact k3, RepL.mono le _ (h e a hs _ k4), k5⟩
    · have ho' : e.H[i]? = some o := by rw [he'] at ho; simpa [List.getElem?_set_ne hi] using ho
      exact ObjSim.mono le (hs.ok.objs i o ho') (by rw [he']) (fun _ _ => by rw [he']; exact ⟨rfl, rfl⟩)
  · rw [he'] at hi hj ⊢; exact hs.ok.inj i j q (by simpa using hi) (by simpa using hj)
  · rw [he'] at hi ⊢; exact hs.ok.live i q (by simpa using hi)
  · rw [he'] at hi ⊢; exact hs.fr.objs i q (by simpa using hi)
theorem sub_token_box {c : Ctx} {s : St} (b sz : Nat) (hb : s.H[b]? = some (.cells [.raw (.slice none 0 0)])) : Sub c s { s with H := s.H.set b (.cells [.own s.H.length sz []]) ++ [.tok 0] } := by
  have h1 : Sub c s { s with H := s.H ++ [.tok 0] } := fun e a hs => by
    obtain ⟨e', k1, _, _, _, _, k2⟩ := sim_tok hs 0; exact ⟨e', k1, k2⟩
  have hl := lt_of_get? hb
  have h2 : Sub c { s with H := s.H ++ [.tok 0] } { s with H := (s.H ++ [AObj.tok 0]).set b (.cells [.own s.H.length sz []]) } :=
    sub_recell (s := { s with H := s.H ++ [AObj.tok 0] }) (l := [.raw (.slice none 0 0)]) (l' := [.own s.H.length sz []]) (by rw [List.getElem?_append_left hl]; exact hb) fun e a hs vs hv => by
      rw [RepL] at hv ⊢
      obtain ⟨v, rest, h1, h2, h3⟩ := hv
      refine ⟨v, rest, h1, ?_, h3⟩
      rw [Rep] at h2
      rw [Rep, h2]
      exact ⟨none, 0, 0, rfl, rfl, Nat.le_refl _, fun _ => rfl, by simp, fun ad h => (by cases h), by rw [hs.H]; simp, ⟨0, by unfold Env.T; rw [hs.H]; simp [tokOf], Nat.le_refl _⟩, fun _ ad h => (by cases h)⟩
  have h3 := h1.trans h2
  rwa [List.set_append_left _ _ hl] at h3
theorem ev_slnil {P : Program} {r : Option Nat} {H : List AObj} {ρ : Operand → AV} {d : Option Tmp} {t : TypeId} {p : String} {af : Array Edge} {g : Option (Nat × Bool)} {x y : Operand} {xt yt et : TypeId} {sz : Nat} (ht : slElem P xt = some (et, sz))
    (hx : Less (ρ x) (.raw (.slice none 0 0))) (hy : Less (ρ y) (.raw (.slice none 0 0))) : Ev P r ⟨d, .binOp .eql xt x y yt, t, p, af, g⟩ H ρ (.raw (.bool true)) :=
  Ev.pure (by intro c h; cases h) fun e ρc ok hE hs => by
    obtain ⟨h1, _⟩ := slElem_und ht
    have hv := rep_raw hx (hs x (by simp [Op.operands]))
    have hw := rep_raw hy (hs y (by simp [Op.operands]))
    refine ⟨.bool true, ?_, by rw [Rep]⟩
    have he : (Op.equal xt (.slice none 0 0) (.slice none 0 0)).run P e.w = .ok true e.w := by
      show (Op.equalIn (9999 + 1) xt _ _).run P e.w = _
      rw [Op.equalIn]; simp [run_und h1]
    have hg : (eqGuard .eql xt x y (.slice none 0 0) (.slice none 0 0)).run P e.w = .ok () e.w := by simp [eqGuard]
    have hb : (binOp .eql xt (.slice none 0 0) (.slice none 0 0)).run P e.w = .ok (.bool true) e.w := by
      show (do pure (.bool (← Op.equal xt (.slice none 0 0) (.slice none 0 0))) : Sem Value).run P e.w = _
      simp [he]
    simp only [execOp, hv, hw]
    simp [hg, hb]
theorem nil_pre (H : List AObj) : H = H ++ [] := (List.append_nil H).symm
section seqg
variable {c : Ctx} {ops : Array Oper} {Q : AExit → St → Prop} {rest : List Oper} {s : St} {i : Nat}
variable {d : Option Tmp} {op : Op} {t : TypeId} {p : String} {af : Array Edge}
theorem sq_op_yes {j u : Nat} {want : Bool} (hj : gslot ops j = some u) (ht : Nat.blt u c.nt = true) (hb : Less (sget s.sl u) (.raw (.bool want)))
    (h : ∀ e a, Sim c s e a → ∀ next : Act → World → Prop, (∀ s' e' a', SeqWP c ops Q (i + 1) rest s' → Sim c s' e' a' → next a' e'.w) → Oper.wpIn (FW c.r) 0 c.P ⟨d, op, t, p, af, some (j, want)⟩ a e.w next (lift c Q)) :
    SeqWP c ops Q i (⟨d, op, t, p, af, some (j, want)⟩ :: rest) s := by
  intro hdr e a hs
  obtain ⟨ho, hr⟩ := drop_cons hdr
  have ho : ops[i]? = some ⟨d, op, t, p, af, some (j, want)⟩ := by simpa using ho
  have hy := yielded_of (ops := ops) hj (by rw [hs.size]; simpa [Nat.blt_eq] using ht) (hb _ _ (hs.slots u))
  simp only [List.length_cons, List.range'_succ, wpOpsIn, ho, Region.wanted, hy]
  rw [if_pos (by simp)]
  exact h e a hs _ (fun s' e' a' k hs' => k hr e' _ hs')
theorem wp_yield {es : Env} {l : Nat} {x y : Operand} {ats : Array TypeId} {a : AV} {b : Bool} {H' : List AObj} {g : Option (Nat × Bool)} (hes : es.Le c.e0) (hd : dOK c.nt d = true) (hx : Less (s.op x) (.fn (.yield l) [] [])) (hy : Less (s.op y) a)
    (hc : AYieldAt es c.P l a s.H b H') {e : Env} {ac : Act} (hs : Sim c s e ac) {next : Act → World → Prop} (k : ∀ e' a', Sim c (St.put { s with H := H' } d (.raw (.bool b))) e' a' → next a' e'.w) :
    Oper.wpIn (FW c.r) 0 c.P ⟨d, .call ⟨.value x, #[y], ats⟩, t, p, af, g⟩ ac e.w next (lift c Q) := by
  have hxr := hx e _ (hs.op x)
  rw [Rep] at hxr
  obtain ⟨fv, cv, hfv, h1, h2⟩ := hxr
  rw [RepL] at h1 h2
  have h1 : fv = #[] := by simpa using h1
  have h2 : cv = #[] := by simpa using h2
  subst h1; subst h2
  obtain ⟨fn, tmps, assign, body, hrun, hround⟩ := hc e (ac.eval y) (hes.trans hs.fr.le) hs.ok hs.H (hy _ _ (hs.op y))
  refine ⟨about_FW _ _ _ _ _, ?_⟩
  show Oper.uponIn (FW c.r) 0 c.P _ ac next (lift c Q) (((Oper.semAt c.r ac.eval ⟨d, .call ⟨.value x, #[y], ats⟩, t, p, af, g⟩)).run c.P e.w)
  rw [semAt_of (by intro c h; cases h)]
  have hex : (execOp ac.eval ⟨d, .call ⟨.value x, #[y], ats⟩, t, p, af, g⟩).run c.P e.w = (Instr.yield l #[ac.eval y]).run c.P e.w := by
    simp [execOp, resolve, hfv, Deferred.ofValue, invoke]
  rw [hex, hrun]
  refine ⟨fun h => by simp [FW] at h, ?_⟩
  refine RoundIn.mono (F := FW none) (n := 0) hround ?_
  rintro ex w' ⟨rfl, e', rfl, ok', fr, hH'⟩
  have := hs.after ok' fr
  rw [hH'] at this
  exact k e' _ (this.put hd (by rw [Rep]))
theorem sq_yield_yes {j u : Nat} {want : Bool} {es : Env} {l : Nat} {x y : Operand} {ats : Array TypeId} {a : AV} {b : Bool} {H' : List AObj} (hj : gslot ops j = some u) (ht : Nat.blt u c.nt = true) (hb : Less (sget s.sl u) (.raw (.bool want)))
    (hes : es.Le c.e0) (hd : dOK c.nt d = true) (hx : Less (s.op x) (.fn (.yield l) [] [])) (hy : Less (s.op y) a)
    (hc : AYieldAt es c.P l a s.H b H') (k : SeqWP c ops Q (i + 1) rest (St.put { s with H := H' } d (.raw (.bool b)))) : SeqWP c ops Q i (⟨d, .call ⟨.value x, #[y], ats⟩, t, p, af, some (j, want)⟩ :: rest) s :=
  sq_op_yes hj ht hb fun _ _ hs _ hn => wp_yield hes hd hx hy hc hs fun e' _ hs' => hn _ e' _ k hs'
end seqg
theorem AQuiet.lend {P : Program} {f : FuncId} {args args' : List AV} {res : AV} {j n c sz : Nat} {es : List (List AV)} {rest : List AV} {H : List AObj}
    (hc : APure P f args res) (hr : res.flat = true) (hlend : FzL j n c sz es args' args)
    (hj : H[j]? = some (.cells (es.flatten ++ rest))) (hn : es.length = n) (hsz : ∀ q ∈ es, q.length = sz) : AQuiet P f args' H res := by
  intro e vs ok hH hargs
  have hlen := hargs.length
  have hje := pre_get hH hj
  have hjl := lt_of_get? hje
  have hsim : Sim ⟨P, none, vs.size, e⟩ ⟨slotsOf 0 args', e.H, []⟩ e { tmps := vs, defers := [] } := by
    refine ⟨rfl, fun t => ?_, DRepL.nil, rfl, ok, Fr.refl e⟩
    rw [get_slotsOf]
    simp only [Nat.zero_le, if_true, Nat.sub_zero]
    cases hat : args'[t]? with
    | none => simp only [Option.getD_none]; rw [Rep]; trivial
    | some q =>
      obtain ⟨u, k1, k2⟩ := hargs.get t q hat
      have : vs.getD t undef = u := by
        rw [Array.getD_eq_getD_getElem?]
        have : vs[t]? = some u := by simpa using k1
        rw [this]; rfl
      rw [this]; exact k2
  have hal : ∀ {l' l : List AV}, FzL j n c sz es l' l → l'.length = l.length := by
    intro l' l h; induction h with
    | nil => rfl
    | cons _ _ ih => simp [ih]
  obtain ⟨e1, hw1, hs1⟩ := sub_freeze (c := ⟨P, none, vs.size, e⟩) (s := ⟨slotsOf 0 args', e.H, []⟩) (j := j) (n := n) (cap := c) (sz := sz) (es := es) (rest := rest) (sl' := slotsOf 0 args) (H' := e.H.set j .dead) hje hn hsz (slotsOf_fz 0 hlend)
    (by
      have rst : ∀ (H : List AObj) (m : Nat), j < m → FzH j n c sz es m H H := by
        intro H
        induction H with
        | nil => exact fun m _ => FzH.nil m
        | cons o H ih => exact fun m hm => FzH.same o (by omega) (ih (m + 1) (by omega))
      have key : ∀ (H : List AObj) (m q : Nat), j = m + q → FzH j n c sz es m H (H.set q .dead) := by
        intro H
        induction H with
        | nil => exact fun m q _ => FzH.nil m
        | cons o H ih =>
          intro m q hq
          cases q with
          | zero => exact FzH.dead o (by omega) (rst H (m + 1) (by omega))
          | succ q => exact FzH.same o (by omega) (ih (m + 1) q (by omega))
      exact key e.H 0 j (by omega)) e { tmps := vs, defers := [] } hsim
  have hargs1 : RepL e1 args vs.toList := by
    have hl2 := hal hlend
    have key : ∀ (l : List AV) (k : Nat) (us : List Value), us.length = l.length → (∀ t, t < l.length → Rep e1 (sget (slotsOf k l) (k + t)) (us.getD t undef)) → RepL e1 l us := by
      intro l
      induction l with
      | nil => intro k us h _; rw [RepL]; exact List.length_eq_zero_iff.1 h
      | cons q l ih =>
        intro k us h hh
        cases us with
        | nil => simp at h
        | cons u us =>
          refine RepL.cons ?_ (ih (k + 1) us (by simpa using h) fun t ht => ?_)
          · have := hh 0 (by simp)
            simpa [slotsOf, sget] using this
          · have := hh (t + 1) (by simpa using ht)
            simp only [slotsOf, sget] at this
            have hne : (k == k + (t + 1)) = false := by simp
            rw [hne] at this
            rw [show k + 1 + t = k + (t + 1) by omega]
            simpa using this
    refine key args 0 vs.toList (by simpa using hlen.trans hl2) fun t ht => ?_
    have := hs1.slots t
    rw [Nat.zero_add]
    have e2 : vs.toList.getD t undef = vs.getD t undef := by rw [List.getD_eq_getElem?_getD, Array.getD_eq_getD_getElem?, Array.getElem?_toList]
    rw [e2]; exact this
  have := hc e1 vs hs1.ok hargs1
  rw [hw1] at this
  refine CallsIn.mono (F := FW none) (n := 0) this ?_
  rintro x w' ⟨u, e2, rfl, rfl, hxt, hu⟩
  have hsz2 : e.w.heap.size ≤ e2.w.heap.size := by have := hxt.size; rw [hw1] at this; exact this
  refine ⟨u, { H := e.H, μ := e.μ, G := fun b => if b < e.w.heap.size then e.G b else e2.G b, w := e2.w }, rfl, rfl, ⟨rfl, fun _ _ => rfl, hsz2, hw1 ▸ hxt.still, fun b hb => ?_, fun b hb => by simp [hb], fun b hb => ?_⟩, rep_flat hr hu⟩
  · have := hxt.heap b (by rw [hw1]; exact hb)
    rw [hw1] at this; exact this
  · have : ¬ b < e.w.heap.size := by simp only at hb; omega
    simp only [this, if_false]; exact hxt.fresh b hb
theorem AQuiet.of_pure {P : Program} {f : FuncId} {args : List AV} {res : AV} (h : APure P f args res) (H : List AObj) : AQuiet P f args H res := fun e vs ok _ hs => h e vs ok hs
theorem AQuiet.less {P : Program} {f : FuncId} {args args' : List AV} {H : List AObj} {res : AV} (h : AQuiet P f args H res) (ha : LessL args' args) : AQuiet P f args' H res := fun e vs ok hH hs => h e vs ok hH (ha.rep hs)
def ARes.inB (n : Nat) : ARes → Bool
  | .ret v => v.inB n
  | .pan v => v.inB n
theorem ACall.drop {P : Program} {f : FuncId} {args : List AV} {H H1 : List AObj} {R : ARes → Prop} (h : ACall P f args H fun x H' => (∃ X, H' = H1 ++ X) ∧ R x) (hn : H.length ≤ H1.length) (hin : objsIn H1.length H1 = true)
    (hR : ∀ x, R x → x.inB H1.length = true) : ACall P f args H fun x H' => H' = H1 ∧ R x := by
  intro e vs ok hH hs
  refine (h e vs ok hH hs).mono ?_
  rintro x w' ⟨ax, e', rfl, ok', fr, ⟨⟨X, hX⟩, hRx⟩, hend⟩
  have hcH : (e'.cut H1.length).H = H1 := by rw [cut_H, hX, List.take_left' rfl]
  refine ⟨ax, e'.cut H1.length, rfl, cut_ok ok' (by rw [← cut_H, hcH]; exact hin), fr.cut (by rw [hH]; exact hn), ⟨hcH, hRx⟩, ?_⟩
  cases ax with
  | ret v => obtain ⟨u, rfl, hu⟩ := hend; exact ⟨u, rfl, Rep.cut v (hR _ hRx) hu⟩
  | pan v => obtain ⟨u, rfl, hu⟩ := hend; exact ⟨u, rfl, Rep.cut v (hR _ hRx) hu⟩
theorem ACall.mono {P : Program} {f : FuncId} {args : List AV} {H : List AObj} {R R' : ARes → List AObj → Prop} (h : ACall P f args H R) (k : ∀ x H', R x H' → R' x H') : ACall P f args H R' :=
  fun e vs ok hH hs => (h e vs ok hH hs).mono fun _ _ ⟨ax, e', h1, h2, h3, h5, h6⟩ => ⟨ax, e', h1, h2, h3, k _ _ h5, h6⟩
end Go.Ab
namespace Go.Ab
variable [Tabs]
section
variable {P : Program} {b : Frame} {a : Act} {k : List Item} {cs : List Frame} {w : World}
theorem stepR_scope {c : Code} : step P (lone (b.atR a (.code (.scope c) :: k)) cs w) = .next (lone (b.atR a (.code c :: .inScope c :: k)) cs w) :=
  step_lone_go (by simp [stepG, stepG.exec, Frame.atR])
theorem stepR_inScope {c : Code} : step P (lone (b.atR a (.inScope c :: k)) cs w) = .next (lone (b.atR a k) cs w) :=
  step_lone_go (by simp [stepG, stepG.exec, Frame.atR])
theorem wpIn_scope {F : Fence} {n : Nat} {Q : Exit → Act → World → Prop} {c : Code} (h : c.wpIn F n P (fun x a w => (∀ l, x ≠ .goto l) ∧ Q x a w) a w) : (Code.scope c).wpIn F n P Q a w := by
  intro b k cs hro hb hr
  have h0 : (lone (b.atR a (.code (.scope c) :: k)) cs w).fenced P F := fenced_calm hb hr rfl
  obtain ⟨e, a₁, w₁, ⟨hg, hq⟩, harr⟩ := h b (.inScope c :: k) cs hro hb hr
  cases e with
  | normal => exact ⟨.normal, a₁, w₁, hq, .head h0 stepR_scope (StepsIn.trans harr (.one (fenced_calm hb hr rfl) stepR_inScope))⟩
  | exit id =>
    have hx : exitTo id (.inScope c :: k) = exitTo id k := by simp [exitTo]
    exact ⟨_, a₁, w₁, hq, fun k' hk => .head h0 stepR_scope (harr.1 k' (by rw [hx]; exact hk)),
      fun hr' hk => let ⟨k₁, h1, h2⟩ := harr.2 hr' (by rw [hx]; exact hk); ⟨k₁, h1, .head h0 stepR_scope h2⟩⟩
  | goto l => exact absurd rfl (hg l)
  | ret => exact ⟨_, a₁, w₁, hq, .of_steps (.one h0 stepR_scope) harr⟩
  | panic ch => exact ⟨_, a₁, w₁, hq, .of_steps (.one h0 stepR_scope) harr⟩
  | outgrown => exact ⟨_, a₁, w₁, hq, .of_steps (.one h0 stepR_scope) harr⟩
end
def AExit.noGoto (Q : AExit → St → Prop) : AExit → St → Prop
  | .goto _, _ => False
  | x, s => Q x s
section
variable {c : Ctx} {Q : AExit → St → Prop} {s : St}
theorem aw_scope {x : Code} (h : AWP c x (AExit.noGoto Q) s) : AWP c (.scope x) Q s := by
  intro e a hs
  refine wpIn_scope (wpIn_mono (h e a hs) ?_)
  rintro ex a' w ⟨ax, s', e', hq, rfl, hs', hx⟩
  cases ax with
  | normal => obtain rfl : ex = .normal := hx; exact ⟨fun l h => (by cases h), .normal, s', e', hq, rfl, hs', rfl⟩
  | exit j => obtain rfl : ex = .exit j := hx; exact ⟨fun l h => (by cases h), .exit j, s', e', hq, rfl, hs', rfl⟩
  | goto l => exact hq.elim
  | ret => obtain rfl : ex = .ret := hx; exact ⟨fun l h => (by cases h), .ret, s', e', hq, rfl, hs', rfl⟩
  | panic v => obtain ⟨u, rfl, hu⟩ := hx; exact ⟨fun l h => (by cases h), .panic v, s', e', hq, rfl, hs', u, rfl, hu⟩
/-- **A box that is written no more**, held in one slot. -/
theorem sub_iptrK (ks : List Nat) (t : Nat) {j : Nat} {l : List AV} (ht : sget s.sl t = .ptr j 0) (hj : s.H[j]? = some (.cells l)) : Sub c s ⟨(t, .iptr l) :: keepS s.sl ks, s.H.set j .dead, s.df⟩ := by
  refine sub_iptr hj rfl fun q hq e e' le key v hv => ?_
  rcases List.mem_cons.1 hq with rfl | hq
  · rw [ht] at hv; exact key v hv
  · unfold keepS at hq
    obtain ⟨u, _, rfl⟩ := List.mem_map.1 hq
    exact Rep.mono le _ hv
end
section
variable {P : Program} {r : Option Nat} {H : List AObj} {ρ : Operand → AV}
variable {d : Option Tmp} {t : TypeId} {p : String} {af : Array Edge} {g : Option (Nat × Bool)} {x y : Operand}
end
end Go.Ab
namespace Go.Ab
variable [Tabs]
def Env.pushT (e : Env) (o : Option Nat) : Env := { H := e.H ++ [.tok 0], μ := fun i => if i = e.H.length then o else e.μ i, G := e.G, w := e.w }
theorem pushT_T {e : Env} {o : Option Nat} {i : Nat} (hi : i < e.H.length) : (e.pushT o).T i = e.T i := by simp [Env.T, Env.pushT, List.getElem?_append_left hi]
theorem pushT_le (e : Env) (o : Option Nat) : e.Le (e.pushT o) := by
  refine ⟨by simp [Env.pushT], fun i hi ht => ⟨by rw [pushT_T hi]; exact ht, fun _ hb => by simpa [Env.pushT, Nat.ne_of_lt hi] using hb⟩, fun b off ho => ⟨ho, rfl⟩, fun i n ht => ?_⟩
  have hi := T_lt ht
  exact ⟨n, by rw [pushT_T hi]; exact ht, Nat.le_refl _, fun _ => ⟨by simp [Env.pushT, Nat.ne_of_lt hi], fun b cs t _ hh => ⟨rfl, cs, hh, rfl⟩⟩⟩
theorem pushT_ok {e : Env} (ok : EnvOK e) {o : Option Nat} (ho : ∀ b, o = some b → b < e.w.heap.size ∧ ∀ i, i < e.H.length → e.μ i ≠ some b) (ht : ∀ b, o = some b → Tabs.blk b → False) : EnvOK (e.pushT o) := by
  refine ⟨ok.fresh, fun i x hx => ?_, fun i j b hi hj h1 h2 => ?_, fun i b hi h1 => ?_, ⟨ok.tabs.1, fun b hb => ⟨(ok.tabs.2 b hb).1, fun i hi h1 => ?_⟩⟩⟩
  · rcases Nat.lt_or_ge i e.H.length with h | h
    · have hx' : e.H[i]? = some x := by simpa [Env.pushT, List.getElem?_append_left h] using hx
      exact ObjSim.mono (pushT_le e o) (ok.objs i x hx') (by simp [Env.pushT, Nat.ne_of_lt h]) (fun _ _ => ⟨rfl, rfl⟩)
    · have hi : i = e.H.length := by have := lt_of_get? hx; simp [Env.pushT] at this; omega
      subst hi
      have : x = .tok 0 := by simpa [Env.pushT] using hx.symm
      subst this; trivial
  · have hi' : i < e.H.length + 1 := by simpa [Env.pushT] using hi
    have hj' : j < e.H.length + 1 := by simpa [Env.pushT] using hj
    simp only [Env.pushT] at h1 h2
    by_cases e1 : i = e.H.length <;> by_cases e2 : j = e.H.length
    · omega
    · rw [if_pos e1] at h1; rw [if_neg e2] at h2
      exact absurd h2 ((ho b h1).2 j (by omega))
    · rw [if_neg e1] at h1; rw [if_pos e2] at h2
      exact absurd h1 ((ho b h2).2 i (by omega))
    · rw [if_neg e1] at h1; rw [if_neg e2] at h2; exact ok.inj i j b (by omega) (by omega) h1 h2
  · have hi' : i < e.H.length + 1 := by simpa [Env.pushT] using hi
    simp only [Env.pushT] at h1
    by_cases e1 : i = e.H.length
    · rw [if_pos e1] at h1; exact (ho b h1).1
    · rw [if_neg e1] at h1; exact ok.live i b (by omega) h1
  · have hi' : i < e.H.length + 1 := by simpa [Env.pushT] using hi
    simp only [Env.pushT] at h1
    by_cases e1 : i = e.H.length
    · rw [if_pos e1] at h1; exact ht b h1 hb
    · rw [if_neg e1] at h1; exact (ok.tabs.2 b hb).2 i (by omega) h1
/-- **A slice with room and without elements, out of a call, is the caller's own.** -/
theorem ACall.fresh {P : Program} {f : FuncId} {args : List AV} {H : List AObj} {sz : Nat}
    (h : ACall P f args H fun x H' => (H' = H ∧ x = .ret (.raw (.slice none 0 0))) ∨ ∃ (cap : Nat) (l : List AV), H' = H ++ [.cells l] ∧ l.length = cap * sz ∧ x = .ret (.msl H.length 0 0 cap))
    (hin : objsIn H.length H = true) : ACall P f args H fun x H' => H' = H ++ [.tok 0] ∧ x = .ret (.own H.length sz []) := by
  intro e vs ok hH hs
  refine (h e vs ok hH hs).mono ?_
  rintro x w' ⟨ax, e', rfl, ok', fr, hR, hend⟩
  rcases hR with ⟨hH', rfl⟩ | ⟨cap, l, hH', hl, rfl⟩
  · obtain ⟨u, rfl, hu⟩ := hend
    refine ⟨.ret (.own H.length sz []), e'.pushT none, rfl, pushT_ok ok' (fun b h => by cases h) (fun b h => by cases h), ⟨fr.size, fr.still, fr.heap, fun i b hi h1 => ?_, fr.le.trans (pushT_le _ _)⟩, ⟨by simp [Env.pushT, hH'], rfl⟩, u, rfl, ?_⟩
    · have hi' : i < e'.H.length + 1 := by simpa [Env.pushT] using hi
      simp only [Env.pushT] at h1
      by_cases e1 : i = e'.H.length
      · rw [if_pos e1] at h1; cases h1
      · rw [if_neg e1] at h1; exact fr.objs i b (by omega) h1
    · rw [Rep] at hu; subst hu
      rw [Rep]
      exact ⟨none, 0, 0, rfl, rfl, Nat.le_refl _, fun _ => rfl, by simp, fun ad h => (by cases h), by simp [Env.pushT, hH'], ⟨0, by simp [Env.T, Env.pushT, tokOf, hH'], Nat.le_refl _⟩, fun _ ad h => (by cases h)⟩
  · obtain ⟨u, rfl, hu⟩ := hend
    have hje : e'.H[H.length]? = some (.cells l) := by rw [hH']; simp
    obtain ⟨b, cs, ct, m1, m2, m3, m4, m5⟩ := ok'.objs _ _ hje
    have hcH : (e'.cut H.length).H = H := by rw [cut_H, hH', List.take_left' rfl]
    have okc : EnvOK (e'.cut H.length) := cut_ok ok' (by rw [← cut_H, hcH]; exact hin)
    have frc := fr.cut (n := H.length) (by rw [hH]; exact Nat.le_refl _)
    have hlen : e'.H.length = H.length + 1 := by rw [hH']; simp
    refine ⟨.ret (.own H.length sz []), (e'.cut H.length).pushT (some b), rfl, pushT_ok okc (fun b' hb' => ?_) (fun b' hb' hk => by cases hb'; exact (ok'.tabs.2 b hk).2 H.length (by omega) m1), ⟨fr.size, fr.still, fr.heap, fun i b' hi h1 => ?_, frc.le.trans (pushT_le _ _)⟩, ⟨by simp [Env.pushT, hcH], rfl⟩, u, rfl, ?_⟩
    · cases hb'
      refine ⟨lt_of_heap m3, fun i hi hb => ?_⟩
      rw [hcH] at hi
      have := ok'.inj i H.length b (by omega) (by omega) hb m1
      omega
    · have hi' : i < H.length + 1 := by simpa [Env.pushT, hcH] using hi
      simp only [Env.pushT] at h1
      rw [hcH] at h1
      by_cases e1 : i = H.length
      · rw [if_pos e1] at h1; cases h1; exact fr.objs H.length b (by omega) m1
      · rw [if_neg e1] at h1; exact fr.objs i b' (by omega) h1
    · rw [Rep] at hu
      obtain ⟨_, _, b', hb', rfl, hle⟩ := hu
      rw [m1] at hb'; cases hb'
      rw [Rep]
      refine ⟨some ⟨b, 0, none⟩, 0, cap, rfl, rfl, hle, fun h => (by cases h), by simp, fun ad h => (by cases h; exact ⟨fun _ => rfl, by rw [ElemsAt]; trivial⟩), by simp [Env.pushT, hcH], ⟨0, by simp [Env.T, Env.pushT, tokOf, hcH], Nat.le_refl _⟩, fun _ ad h hlt => ?_⟩
      cases h
      refine ⟨by simp [Env.pushT, hcH], by simpa [Env.pushT, Env.cut] using m2, cs, ct, m3, ?_⟩
      have := m4.length
      rw [Array.length_toList] at this
      simp only [Nat.zero_add]
      omega
section
variable {P : Program}
theorem run_append_make (w : World) (t tx ty e : TypeId) (i : TypeInfo) (z : Value) (ht : P.underlying t = some (.slice e)) (hx : P.underlying tx = some (.int .i64)) (hi : P.info? e = some i) (hz : i.zero = some z)
    (n : Nat) (h0 : 0 < n) (hs : 0 < i.size) (h63 : (n : Int) ≤ 9223372036854775807) (h48 : n * i.bytes ≤ 281474976710656) :
    (Builtin.append_ #[t, tx] ty #[.slice none 0 0, .int .i64 n]).run P w =
      .ok (.slice (some ⟨w.heap.size, 0, none⟩) n (grownCap w n 0 e)) (w.drew.alloc (.cells (Builtin.zeroCells z.cells n ++ Builtin.zeroCells z.cells (grownCap w n 0 e - n)) e)) := by
  have hn : n ≠ 0 := by omega
  have hs' : i.size ≠ 0 := by omega
  have h63' : ¬ (9223372036854775807 < (n : Int)) := by omega
  have hl0 : ¬ ((n : Int) < 0) := by omega
  have h48' : ¬ (281474976710656 < Builtin.nextslicecap n 0 * i.bytes) := by rw [nextslicecap_zero h0]; omega
  have h48i : ¬ ((281474976710656 : Int) < (n : Int) * (i.bytes : Int)) := by
    have : ((n * i.bytes : Nat) : Int) ≤ ((281474976710656 : Nat) : Int) := Int.ofNat_le.2 h48
    rw [Int.natCast_mul] at this
    exact Int.not_lt.2 this
  have hw : IntKind.i64.wrap (n : Int) = n := IntWalk.i64_in _ ⟨by omega, by omega⟩
  simp [Builtin.append_, run_underlying ht, run_underlying hx, sizeOf, typeInfo, zeroValue, hi, hz, asInt, asIntOf, hw, hl0, h48i, hn, hs', h63', h48', Question.forced, run_firstCells_none, newRow, grownCap]
  intro h; exact absurd h (Nat.mul_ne_zero hn hs')
end
section seq
variable {c : Ctx} {ops : Array Oper} {Q : AExit → St → Prop} {rest : List Oper} {s : St} {i : Nat}
variable {d : Option Tmp} {t : TypeId} {p : String} {af : Array Edge}
theorem sq_append_make {x y : Operand} {st xt et : TypeId} {sz bytes n : Nat} (hd : dOK c.nt d = true)
    (hf : SlFact c.P st et sz bytes) (hk : c.P.underlying xt = some (.int .i64)) (hsz : 0 < sz) (hx : Less (s.op x) (.raw (.slice none 0 0))) (hy : Less (s.op y) (.raw (.int .i64 n))) (hpos : 0 < n)
    (hb : n * bytes ≤ 140737488355328) (h63 : n ≤ 9223372036854775807)
    (k : ∀ cap, n ≤ cap → SeqWP c ops Q (i + 1) rest (St.put { s with H := s.H ++ [.cells (List.replicate (cap * sz) .any)] } d (.msl s.H.length 0 n cap))) :
    SeqWP c ops Q i (⟨d, .call ⟨.builtin .append, #[x, y], #[st, xt]⟩, t, p, af, none⟩ :: rest) s := by
  refine sq_op fun e ac hs next hn' => ?_
  have hu := rep_raw hx (hs.op x)
  have hv := rep_raw hy (hs.op y)
  obtain ⟨ti, z, k1, k2, rfl, rfl, k5, k6, k7⟩ := hf.ex
  have hrun := run_append_make (P := c.P) e.w st xt t et ti z k1 hk k2 k5 n hpos hsz (by omega) (by omega)
  have hle := grownCap_le e.w n 0 et
  generalize grownCap e.w n 0 et = cap at hrun hle
  have hs1 := hs.ext (EnvOK.drew hs.ok)
  have hzl : (Builtin.zeroCells z.cells n ++ Builtin.zeroCells z.cells (cap - n)).toList.length = cap * ti.size := by
    simp only [Array.toList_append, List.length_append, Builtin.zeroCells, Array.toList_map, Array.toList_range, List.length_map, List.length_range, k7]
    rw [← Nat.add_mul]; congr 1; omega
  have hrl : RepL { e with w := { e.w with drawn := e.w.drawn + 1 } } (List.replicate (cap * ti.size) .any) (Builtin.zeroCells z.cells n ++ Builtin.zeroCells z.cells (cap - n)).toList := by
    rw [← hzl]; exact RepL.anys _
  have hcell : ∀ q ∈ (Builtin.zeroCells z.cells n ++ Builtin.zeroCells z.cells (cap - n)).toList, isCell q = true := by
    intro q hq
    rw [Array.toList_append] at hq
    rcases List.mem_append.1 hq with h | h <;> exact zeroCells_cell k6 _ q h
  have hs2 := hs1.push (push_cells (t := et) hs1.ok hrl hcell)
  refine ⟨about_FW _ _ _ _ _, ?_⟩
  show Oper.uponIn (FW c.r) 0 c.P _ ac next (lift c Q) (((Oper.semAt c.r ac.eval ⟨d, .call ⟨.builtin .append, #[x, y], #[st, xt]⟩, t, p, af, none⟩)).run c.P e.w)
  rw [semAt_of (by intro c h; cases h)]
  have hex : (execOp ac.eval ⟨d, .call ⟨.builtin .append, #[x, y], #[st, xt]⟩, t, p, af, none⟩).run c.P e.w = ((Builtin.append_ #[st, xt] t #[.slice none 0 0, .int .i64 n]).run c.P e.w).andThen fun v w'' => .ok (.value v) w'' := by
    simp [execOp, resolve, invoke, builtin, hu, hv]
  rw [hex, hrun]
  refine hn' _ _ _ (k cap (by omega)) (hs2.put hd ?_)
  rw [Rep]
  refine ⟨?_, ?_, e.w.heap.size, ?_, by simp, by omega⟩
  · simp [Env.push, hs.H]
  · simp [Env.T, Env.push, hs.H, tokOf]
  · simp [Env.push, hs.H]
end seq
section
variable {P : Program} {r : Option Nat} {H : List AObj} {ρ : Operand → AV}
variable {d : Option Tmp} {t : TypeId} {p : String} {af : Array Edge} {g : Option (Nat × Bool)} {x y : Operand}
theorem ev_cap_nil {xt et : TypeId} {sz : Nat} (ht : slElem P xt = some (et, sz)) (hx : Less (ρ x) (.raw (.slice none 0 0))) : Ev P r ⟨d, .call ⟨.builtin .cap, #[x], #[xt]⟩, t, p, af, g⟩ H ρ (.raw (.int .i64 0)) :=
  Ev.pure (by intro c h; cases h) fun e ρc ok hE hs => by
    obtain ⟨h1, _⟩ := slElem_und ht
    have hv := rep_raw hx (hs x (by simp [Op.operands, Call.operands]))
    exact ⟨.int .i64 0, by simp [execOp, resolve, invoke, builtin, Builtin.cap_, run_und h1, hv, goInt], by rw [Rep]⟩
theorem ev_slice_nil {xt et : TypeId} {sz : Nat} {q : Operand} (ht : slElem P xt = some (et, sz)) (hx : Less (ρ x) (.raw (.slice none 0 0))) (hq : Less (ρ q) (.raw (.int .i64 0))) :
    Ev P r ⟨d, .slice xt x none (some q) none, t, p, af, g⟩ H ρ (.raw (.slice none 0 0)) :=
  Ev.pure (by intro c h; cases h) fun e ρc ok hE hs => by
    obtain ⟨k1, ti, k2, rfl⟩ := slElem_und ht
    have hv := rep_raw hx (hs x (by simp [Op.operands]))
    have hhi := rep_raw hq (hs q (by simp [Op.operands]))
    have hbd : (Instr.sliceBounds true 0 0 (Option.map ρc none) (some (ρc q)) none).run P e.w = .ok (0, 0, 0) e.w := by
      simp [Instr.sliceBounds, Instr.sliceBound, hhi, asIntOf]
    refine ⟨.slice none 0 0, ?_, by rw [Rep]⟩
    simp only [Option.map_none] at hbd
    simp [execOp, Instr.sliceAt, Instr.slice, run_und k1, hv, hbd, run_size k2, Addr.add]
end
end Go.Ab
namespace Go.Ab
variable [Tabs]
abbrev S (l : List UInt8) : AV := .raw (.string ⟨l.toArray⟩)
theorem flat_single {α : Type} (f : α → AV) (l : List α) : (l.map fun n => [f n]).flatten = l.map f := by
  induction l with
  | nil => rfl
  | cons u us ih => simp [ih]
section ops
variable {P : Program} {r : Option Nat} {H : List AObj} {ρ : Operand → AV}
variable {d : Option Tmp} {t : TypeId} {p : String} {af : Array Edge} {g : Option (Nat × Bool)}
variable {x y z : Operand}
end ops
section seq
variable {c : Ctx} {ops : Array Oper} {Q : AExit → St → Prop} {rest : List Oper} {s : St} {i : Nat}
variable {d : Option Tmp} {t : TypeId} {p : String} {af : Array Edge}
end seq
end Go.Ab
namespace Go.Ab
open Go.Lib
def cut (c : UInt8) : List UInt8 → List (List UInt8)
  | [] => [[]]
  | b :: l => if b = c then [] :: cut c l else match cut c l with
    | [] => [[b]]
    | x :: xs => (b :: x) :: xs
end Go.Ab
namespace Go.Ab
variable [Tabs]
section
variable {c : Ctx} {Q : AExit → St → Prop} {s : St}
end
section
variable {P : Program} {r : Option Nat} {H : List AObj} {ρ : Operand → AV} {o : Oper}
end
section
variable {c : Ctx} {Q : AExit → St → Prop} {H : List AObj} {df : List ADef} {ρ : Operand → AV} {o : Oper}
end
theorem sub_token_cell {c : Ctx} {s : St} (b sz : Nat) (l1 l2 : List AV) (hb : s.H[b]? = some (.cells (l1 ++ .raw (.slice none 0 0) :: l2))) : Sub c s { s with H := s.H.set b (.cells (l1 ++ .own s.H.length sz [] :: l2)) ++ [.tok 0] } := by
  have h1 : Sub c s { s with H := s.H ++ [.tok 0] } := fun e a hs => by
    obtain ⟨e', k1, _, _, _, _, k2⟩ := sim_tok hs 0; exact ⟨e', k1, k2⟩
  have hl := lt_of_get? hb
  have h2 : Sub c { s with H := s.H ++ [.tok 0] } { s with H := (s.H ++ [AObj.tok 0]).set b (.cells (l1 ++ .own s.H.length sz [] :: l2)) } :=
    sub_recell (s := { s with H := s.H ++ [AObj.tok 0] }) (l := l1 ++ .raw (.slice none 0 0) :: l2) (l' := l1 ++ .own s.H.length sz [] :: l2) (by rw [List.getElem?_append_left hl]; exact hb) fun e a hs vs hv => by
      have hown : ∀ v, Rep e (.raw (.slice none 0 0)) v → Rep e (.own s.H.length sz []) v := fun v h2 => by
        rw [Rep] at h2
        rw [Rep, h2]
        exact ⟨none, 0, 0, rfl, rfl, Nat.le_refl _, fun _ => rfl, by simp, fun ad h => (by cases h), by rw [hs.H]; simp, ⟨0, by unfold Env.T; rw [hs.H]; simp [tokOf], Nat.le_refl _⟩, fun _ ad h => (by cases h)⟩
      clear h1 hb
      induction l1 generalizing vs with
      | nil =>
        simp only [List.nil_append] at hv ⊢
        rw [RepL] at hv ⊢
        obtain ⟨v, rest, h1, h2, h3⟩ := hv
        exact ⟨v, rest, h1, hown v h2, h3⟩
      | cons x l1 ih =>
        simp only [List.cons_append] at hv ⊢
        rw [RepL] at hv ⊢
        obtain ⟨v, rest, h1, h2, h3⟩ := hv
        exact ⟨v, rest, h1, h2, ih rest h3⟩
  have h3 := h1.trans h2
  rwa [List.set_append_left _ _ hl] at h3
end Go.Ab
namespace Go.Ab
variable [Tabs]
def makeB (P : Program) (t : TypeId) (n : Nat) : Option (List Value) :=
  match P.underlying t with
  | some (.slice e) => match P.info? e with
    | some i => match i.zero with
      | some z => if Nat.ble (i.bytes * n) 281474976710656 = true ∧ (madeCells z.cells (n * i.size)).toList.all isCell = true then some (madeCells z.cells (n * i.size)).toList else none
      | none => none
    | none => none
  | _ => none
theorem makeB_ex {P : Program} {t : TypeId} {n : Nat} {cs : List Value} (h : makeB P t n = some cs) :
    ∃ e i z, P.underlying t = some (.slice e) ∧ P.info? e = some i ∧ i.zero = some z ∧ i.bytes * n ≤ 281474976710656 ∧ (madeCells z.cells (n * i.size)).toList = cs ∧ cs.all isCell = true := by
  unfold makeB at h
  split at h
  · rename_i e h1
    split at h
    · rename_i i h2
      split at h
      · rename_i z h3
        split at h
        · rename_i h4
          simp only [Option.some.injEq] at h
          exact ⟨e, i, z, h1, h2, h3, Nat.le_of_ble_eq_true h4.1, h, by rw [← h]; exact h4.2⟩
        · cases h
      · cases h
    · cases h
  · cases h
section seq
variable {c : Ctx} {ops : Array Oper} {Q : AExit → St → Prop} {rest : List Oper} {s : St} {i : Nat}
variable {d : Option Tmp} {t : TypeId} {p : String} {af : Array Edge}
end seq
end Go.Ab
namespace Go.Ab
open Go.ChangeShapes Go.WideShapes
variable [Tabs]
inductive Sh where
  | int (k : IntKind)
  | bool
  | str
  | unit
  | two (a b : Sh)
  | sl (s : Sh)
def Sh.den : Sh → Type
  | .int _ => Int
  | .bool => Bool
  | .str => List UInt8
  | .unit => Unit
  | .two a b => a.den × b.den
  | .sl s => List s.den
def Sh.size : Sh → Nat
  | .int _ => 1
  | .bool => 1
  | .str => 1
  | .sl _ => 1
  | .unit => 0
  | .two a b => a.size + b.size
def Sh.flat : Sh → Bool
  | .int _ => true
  | .bool => true
  | .str => true
  | .unit => true
  | .sl _ => false
  | .two a b => a.flat && b.flat
def Sh.av : (s : Sh) → s.den → List AV
  | .int k, n => [.raw (.int k n)]
  | .bool, b => [.raw (.bool b)]
  | .str, l => [S l]
  | .unit, _ => []
  | .two a b, x => a.av x.1 ++ b.av x.2
  | .sl s, x => [.sl s.size (x.map s.av)]
def Sh.one : (s : Sh) → s.den → AV
  | .int k, n => .raw (.int k n)
  | .bool, b => .raw (.bool b)
  | .str, l => S l
  | .unit, _ => .agg []
  | .two a b, x => .agg (a.av x.1 ++ b.av x.2)
  | .sl s, x => .sl s.size (x.map s.av)
theorem Sh.av_len : (s : Sh) → (x : s.den) → (s.av x).length = s.size
  | .int _, _ => rfl
  | .bool, _ => rfl
  | .str, _ => rfl
  | .unit, _ => rfl
  | .sl _, _ => rfl
  | .two a b, x => by simp only [Sh.av, Sh.size, List.length_append, a.av_len x.1, b.av_len x.2]
def fsSh (P : Program) (g : TypeId → Option Sh) : List Field → Nat → Option Sh
  | [], _ => some .unit
  | f :: r, o => match g f.type, fsSh P g r (o + P.cellsOf f.type) with
    | some a, some b => if f.offset = o ∧ P.cellsOf f.type = a.size then some (.two a b) else none
    | _, _ => none
def arSh (a : Sh) : Nat → Sh
  | 0 => .unit
  | n + 1 => .two a (arSh a n)
def shOf (P : Program) : Nat → TypeId → Option Sh
  | 0, _ => none
  | n + 1, t => match P.underlying t with
    | some (.int k) => some (.int k)
    | some .bool => some .bool
    | some .string => some .str
    | some (.slice e) => match shOf P n e with
      | some s => if 0 < s.size ∧ P.cellsOf e = s.size then some (.sl s) else none
      | none => none
    | some (.struct fs) => match fsSh P (shOf P n) fs.toList 0 with
      | some s => if P.cellsOf t = s.size then some s else none
      | none => none
    | some (.array m e) => match shOf P n e with
      | some s => if P.cellsOf e = s.size ∧ P.cellsOf t = (arSh s m).size then some (arSh s m) else none
      | none => none
    | _ => none
def env0 (w : World) : Env := { H := [], μ := fun _ => none, G := fun b => match w.heap[b]? with | some (.cells cs _ _) => cs.size | _ => 0, w := w }
theorem env0_lt {w : World} {b off : Nat} {v : Value} (h : w.cell? ⟨b, off, none⟩ = some v) : off < (env0 w).G b := by
  unfold World.cell? at h
  simp only [env0]
  split at h
  · rename_i c t f hb
    simp only [hb]
    simp only [Option.isSome_none, Bool.false_eq_true, if_false] at h
    exact (Array.getElem?_eq_some_iff.1 h).1
  · cases h
theorem cells_read {w : World} {b : Nat} : ∀ {l : List AV} {vs : List Value} {off : Nat}, RepL (env0 w) l vs → (∀ c ∈ vs, isCell c = true) → (∀ i, i < vs.length → w.cell? ⟨b, off + i, none⟩ = vs[i]?) → CellsAt (env0 w) l b off
  | [], _, _, _, _, _ => by rw [CellsAt]; trivial
  | a :: l, _, off, h, h1, hc => by
    rw [RepL] at h; obtain ⟨v, rest, rfl, h2, h3⟩ := h
    have c0 : w.cell? ⟨b, off, none⟩ = some v := by simpa using hc 0 (by simp)
    rw [CellsAt]
    refine ⟨⟨env0_lt c0, v, c0, h2, h1 v (by simp)⟩, cells_read h3 (fun c hm => h1 c (List.mem_cons_of_mem _ hm)) fun i hi => ?_⟩
    have := hc (i + 1) (by simp; omega)
    rw [show off + 1 + i = off + (i + 1) by omega]; simpa using this
section
variable {H : Type} {enc : TypeId × Value → H} {P : Program} {w : World} {base : Nat} {spare : Nat → Bool} {held : Bool}
theorem fs_read {g : TypeId → Option Sh} {cs : List Value}
    (ih : ∀ {t : TypeId} {s : Sh} {k : Nat} {cs : List Value} {x : DataW H × List MemPlace}, g t = some s → DataW.trod enc P w base spare held k t cs = some x → ∃ y : s.den, RepL (env0 w) (s.av y) cs ∧ ∀ c ∈ cs, isCell c = true) :
    ∀ {fs : List Field} {o : Nat} {s : Sh}, fsSh P g fs o = some s → cs.length = o + s.size →
      (∀ f ∈ fs, ∃ (k : Nat) (x : DataW H × List MemPlace), DataW.trod enc P w base spare held k f.type ((cs.drop f.offset).take (P.cellsOf f.type)) = some x) → ∃ y : s.den, RepL (env0 w) (s.av y) (cs.drop o) ∧ ∀ c ∈ cs.drop o, isCell c = true
  | [], o, s, h, hl, _ => by
    simp only [fsSh, Option.some.injEq] at h; subst h
    have : cs.drop o = [] := List.drop_eq_nil_of_le (by simp only [Sh.size] at hl; omega)
    rw [this]; exact ⟨(), RepL.nil, by simp⟩
  | f :: r, o, s, h, hl, hr => by
    unfold fsSh at h
    split at h
    · rename_i a b ha hb
      split at h
      · rename_i hc
        obtain ⟨ho, hcs⟩ := hc
        simp only [Option.some.injEq] at h; subst h
        obtain ⟨k, x, hx⟩ := hr f (by simp)
        rw [ho, hcs] at hx
        rw [hcs] at hb
        obtain ⟨y1, r1, c1⟩ := ih ha hx
        obtain ⟨y2, r2, c2⟩ := fs_read ih hb (by simp only [Sh.size] at hl; omega) (fun q hq => hr q (List.mem_cons_of_mem _ hq))
        have e : cs.drop o = (cs.drop o).take a.size ++ cs.drop (o + a.size) := by
          rw [← List.drop_drop]; exact (List.take_append_drop _ _).symm
        rw [e]
        refine ⟨(y1, y2), RepL.append r1 r2, fun c hm => ?_⟩
        rcases List.mem_append.1 hm with h | h
        · exact c1 c h
        · exact c2 c h
      · cases h
    · cases h
theorem ar_read {s : Sh} {e : TypeId} {cs : List Value} (hcs : P.cellsOf e = s.size)
    (ih : ∀ {k : Nat} {cs : List Value} {x : DataW H × List MemPlace}, DataW.trod enc P w base spare held k e cs = some x → ∃ y : s.den, RepL (env0 w) (s.av y) cs ∧ ∀ c ∈ cs, isCell c = true) :
    ∀ {m j : Nat}, cs.length = j * s.size + (arSh s m).size →
      (∀ i, i < j + m → ∃ (k : Nat) (x : DataW H × List MemPlace), DataW.trod enc P w base spare held k e ((cs.drop (i * P.cellsOf e)).take (P.cellsOf e)) = some x) → ∃ y : (arSh s m).den, RepL (env0 w) ((arSh s m).av y) (cs.drop (j * s.size)) ∧ ∀ c ∈ cs.drop (j * s.size), isCell c = true
  | 0, j, hl, _ => by
    have : cs.drop (j * s.size) = [] := List.drop_eq_nil_of_le (by simp only [arSh, Sh.size] at hl; omega)
    rw [this]; exact ⟨(), RepL.nil, by simp⟩
  | m + 1, j, hl, hr => by
    obtain ⟨k, x, hx⟩ := hr j (by omega)
    rw [hcs] at hx
    obtain ⟨y1, r1, c1⟩ := ih hx
    obtain ⟨y2, r2, c2⟩ := ar_read hcs ih (m := m) (j := j + 1) (by simp only [arSh, Sh.size] at hl; rw [Nat.add_mul]; omega) (fun i hi => hr i (by omega))
    have e : cs.drop (j * s.size) = (cs.drop (j * s.size)).take s.size ++ cs.drop ((j + 1) * s.size) := by
      rw [Nat.add_mul, Nat.one_mul, ← List.drop_drop]; exact (List.take_append_drop _ _).symm
    rw [e]
    refine ⟨(y1, y2), RepL.append r1 r2, fun c hm => ?_⟩
    rcases List.mem_append.1 hm with h | h
    · exact c1 c h
    · exact c2 c h
/-- **What a reading gives.** -/
theorem sh_read (hsr : ∀ b, spare b = true) : ∀ (n : Nat) {t : TypeId} {s : Sh} {k : Nat} {cs : List Value} {x : DataW H × List MemPlace}, shOf P n t = some s → DataW.trod enc P w base spare held k t cs = some x →
    ∃ y : s.den, RepL (env0 w) (s.av y) cs ∧ ∀ c ∈ cs, isCell c = true
  | 0, _, _, _, _, _, h, _ => by cases h
  | n + 1, t, s, k, cs, x, h, hx => by
    unfold shOf at h
    split at h
    · rename_i ik hu
      simp only [Option.some.injEq] at h; subst h
      obtain ⟨m, rfl, _, _⟩ := DataW.trod_int hu hx
      exact ⟨m, RepL.cons (by rw [Rep]) RepL.nil, fun c hc => by simp at hc; subst hc; rfl⟩
    · rename_i hu
      simp only [Option.some.injEq] at h; subst h
      obtain ⟨m, rfl, _⟩ := DataW.trod_bool hu hx
      exact ⟨m, RepL.cons (by rw [Rep]) RepL.nil, fun c hc => by simp at hc; subst hc; rfl⟩
    · rename_i hu
      simp only [Option.some.injEq] at h; subst h
      obtain ⟨m, rfl, _, _⟩ := DataW.trod_string hu hx
      exact ⟨m.data.toList, RepL.cons (by rw [Rep]) RepL.nil, fun c hc => by simp at hc; subst hc; rfl⟩
    · rename_i e hu
      split at h
      · rename_i s1 he
        split at h
        · rename_i hc
          obtain ⟨hfl, hcs⟩ := hc
          simp only [Option.some.injEq] at h; subst h
          rcases Go.Deep.open_slice hu hx with ⟨rfl, _⟩ | ⟨a, len, cap, m, n', D, Pl, rfl, hb, hl, hm, hmm, _, hi⟩
          · refine ⟨([] : List s1.den), RepL.cons ?_ RepL.nil, fun c hc => by simp at hc; subst hc; rfl⟩
            show Rep _ (.sl s1.size []) _
            rw [Rep]
            exact ⟨none, 0, 0, rfl, rfl, Nat.le_refl _, fun _ => rfl, by simp, fun ad h => by cases h⟩
          · have hlm : len ≤ m := by rw [hmm]; split <;> omega
            have hsp : cap ≠ 0 → a.spot = none := fun h0 => by
              have hmc : m = cap := by rw [hmm, hsr]; rfl
              obtain ⟨cs', hc, _⟩ := hi 0 (by omega)
              obtain ⟨_, hcl, hat⟩ := World.cells?_some hc
              have h1 := hat (i := 0) (by omega)
              rw [Nat.zero_mul] at h1
              have e1 : (a.add 0).add 0 = a := rfl
              rw [e1] at h1
              unfold World.cell? at h1
              cases hq : a.spot with
              | none => rfl
              | some q =>
                exfalso
                rw [hq] at h1
                have h2 : cs'[0]? = none := by
                  rw [← h1]; split <;> rfl
                rw [List.getElem?_eq_none_iff] at h2; omega
            by_cases h0 : cap = 0
            · refine ⟨([] : List s1.den), RepL.cons ?_ RepL.nil, fun c hc => by simp at hc; subst hc; rfl⟩
              show Rep _ (.sl s1.size []) _
              rw [Rep]
              exact ⟨some a, len, cap, rfl, by simp; omega, hl, fun _ => h0, by simp, fun ad h => ⟨fun h => absurd h0 h, by rw [ElemsAt]; trivial⟩⟩
            have hsp := hsp h0
            obtain ⟨b, off, sp⟩ := a
            simp only at hsp; subst hsp
            have key : ∀ q, q ≤ len → ∃ ys : List s1.den, ys.length = q ∧ ElemsAt (env0 w) (ys.map s1.av) b off := by
              intro q
              induction q with
              | zero => intro _; exact ⟨[], rfl, by rw [List.map_nil, ElemsAt]; trivial⟩
              | succ q ihq =>
                intro hq
                obtain ⟨ys, hy, hel⟩ := ihq (by omega)
                obtain ⟨cs', hc, ht'⟩ := hi q (by omega)
                obtain ⟨z, hz, hz1⟩ := sh_read hsr n he ht'
                obtain ⟨_, hcl, hat⟩ := World.cells?_some hc
                refine ⟨ys ++ [z], by simp [hy], ?_⟩
                rw [List.map_append]
                refine ElemsAt.append (sz := s1.size) hel (fun c hm => by obtain ⟨u, _, rfl⟩ := List.mem_map.1 hm; exact s1.av_len u) ?_
                rw [List.map_cons, List.map_nil, ElemsAt, ElemsAt]
                refine ⟨cells_read hz hz1 fun i hi => ?_, trivial⟩
                rw [List.length_map, hy]
                have hthis := hat (i := i) (by omega)
                rw [Addr.add_lit, Addr.add_lit, hcs] at hthis
                exact hthis
            obtain ⟨ys, hy, hel⟩ := key len (Nat.le_refl _)
            refine ⟨ys, RepL.cons ?_ RepL.nil, fun c hc => by simp at hc; subst hc; rfl⟩
            rw [Rep]
            exact ⟨some ⟨b, off, none⟩, len, cap, rfl, by simp [hy], hl, fun h => (by cases h), fun c hm => by obtain ⟨u, _, rfl⟩ := List.mem_map.1 hm; exact s1.av_len u, fun ad had => by cases had; exact ⟨fun _ => rfl, hel⟩⟩
        · cases h
      · cases h
    · rename_i fs hu
      split at h
      · rename_i s1 hf
        split at h
        · rename_i hc
          simp only [Option.some.injEq] at h; subst h
          obtain ⟨xs, n', _, _, hlen, hxl, hfx⟩ := DataW.trod_struct hu hx
          have := fs_read (g := shOf P n) (cs := cs) (fun h1 h2 => sh_read hsr n h1 h2) hf (by omega) (fun f hm => by
            obtain ⟨i, hi, he⟩ := List.getElem_of_mem hm
            have hi' : i < xs.length := by rw [hxl]; simpa using hi
            exact ⟨n', xs[i], (hfx i f (by rw [← he]; simp)).trans (List.getElem?_eq_getElem hi')⟩)
          simpa using this
        · cases h
      · cases h
    · rename_i m e hu
      split at h
      · rename_i s1 he
        split at h
        · rename_i hc
          obtain ⟨hcs, hct⟩ := hc
          simp only [Option.some.injEq] at h; subst h
          obtain ⟨xs, n', _, _, hlen, hxl, hfx⟩ := DataW.trod_array hu hx
          have := ar_read (s := s1) (e := e) (cs := cs) hcs (fun h2 => sh_read hsr n he h2) (m := m) (j := 0) (by omega) (fun i hi => by
            have hi' : i < xs.length := by omega
            exact ⟨n', xs[i], (hfx i (by omega)).trans (List.getElem?_eq_getElem hi')⟩)
          simpa using this
        · cases h
      · cases h
    · cases h
theorem sh_arg (hsr : ∀ b, spare b = true) (n : Nat) {t : TypeId} {s : Sh} {r : Reach} {b0 : Nat} {v : Value} {d : DataW H} {ps : List MemPlace} (hs : shOf P n t = some s) (hv : Value.okWide P w r b0 t v) (h : DataW.Trod enc P w base spare held t v d ps) :
    ∃ y : s.den, RepL (env0 w) (s.av y) v.cells.toList ∧ ∀ c ∈ v.cells.toList, isCell c = true := by
  obtain ⟨k, hk⟩ := h
  exact sh_read hsr n hs hk
theorem arg_agg {t : TypeId} {r : Reach} {b0 : Nat} {v : Value} {l : List AV} (hu : (∃ fs, P.underlying t = some (.struct fs)) ∨ ∃ n e, P.underlying t = some (.array n e)) (hv : Value.okWide P w r b0 t v)
    (h : RepL (env0 w) l v.cells.toList ∧ ∀ c ∈ v.cells.toList, isCell c = true) : Rep (env0 w) (.agg l) v := by
  have : ∃ cs, v = .agg cs := by
    unfold Value.okWide at hv
    rcases hu with ⟨fs, hu⟩ | ⟨n, e, hu⟩ <;> rw [hu] at hv <;> (obtain ⟨cs, h, _⟩ := hv; exact ⟨cs, h⟩)
  obtain ⟨cs, rfl⟩ := this
  rw [Rep]; exact ⟨cs, rfl, h.1, h.2⟩
def oneV : Value → Bool
  | .agg _ => false
  | .tuple _ => false
  | _ => true
theorem oneV_cells {v : Value} (h : oneV v = true) : v.cells.toList = [v] := by cases v <;> first | rfl | cases h
theorem arg_one {v : Value} {a : AV} (hv : oneV v = true) (h : RepL (env0 w) [a] v.cells.toList ∧ ∀ c ∈ v.cells.toList, isCell c = true) : Rep (env0 w) a v := by
  have h := h.1
  rw [oneV_cells hv, RepL] at h
  obtain ⟨u, rest, e, h2, _⟩ := h
  cases e; exact h2
end
end Go.Ab
namespace Go.Ab
variable [Tabs]
class TyF (P : Program) (t : TypeId) (b : outParam Bool) (n : outParam Nat) : Prop where h : tySz P t = some (b, n)
class FoF (P : Program) (s : TypeId) (f : Nat) (k : outParam Nat) (ft : outParam TypeId) : Prop where h : fOff P s f = some (k, ft)
class SlE (P : Program) (t : TypeId) (e : outParam TypeId) (n : outParam Nat) : Prop where h : slElem P t = some (e, n)
class SlS (P : Program) (t : TypeId) (e : outParam TypeId) (n b : outParam Nat) : Prop where h : SlFact P t e n b
class ArE (P : Program) (t : TypeId) (m : outParam Nat) (e : outParam TypeId) (n : outParam Nat) : Prop where h : arrElem P t = some (m, e, n)
class BdI (P : Program) (t : TypeId) (z : outParam (List AV)) (b : outParam Bool) (l : outParam (List (Nat × Nat))) (n : outParam Nat) : Prop where h : bldInfo P t = some (z, b, l, n)
class ZeO (P : Program) (t : TypeId) (z : outParam (List AV)) : Prop where h : zeroOf P t = some z
class UnD (P : Program) (t : TypeId) (d : outParam TypeDesc) : Prop where h : P.underlying t = some d
class NiF (P : Program) (t : TypeId) : Prop where h : notIface P t = true
class EnT (P : Program) (f : FuncId) : Prop where h : Ent P f
theorem w64 {n : Int} (h : -9223372036854775808 ≤ n ∧ n ≤ 9223372036854775807) : IntKind.i64.wrap n = n := IntWalk.i64_in _ h
theorem A {p : Prop} (h : p := by exact ⟨rfl, J, LL⟩) : p := h
section seq
variable {c : Ctx} {ops : Array Oper} {Q : AExit → St → Prop} {rest : List Oper} {s : St} {i : Nat}
variable {d : Option Tmp} {op : Op} {t : TypeId} {p : String} {af : Array Edge}
theorem sn1 {j u : Nat} (hj : gslot ops j = some u) (ht : Nat.blt u c.nt = true) (hb : Less (sget s.sl u) (.raw (.bool false))) (hd : dOK c.nt d = true) (k : SeqWP c ops Q (i + 1) rest (s.put d (.raw (.tuple #[])))) :
    SeqWP c ops Q i (⟨d, op, t, p, af, some (j, true)⟩ :: rest) s := sq_no hj ht hb rfl hd k
theorem sn0 {j u : Nat} (hj : gslot ops j = some u) (ht : Nat.blt u c.nt = true) (hb : Less (sget s.sl u) (.raw (.bool true))) (hd : dOK c.nt d = true) (k : SeqWP c ops Q (i + 1) rest (s.put d (.raw (.tuple #[])))) :
    SeqWP c ops Q i (⟨d, op, t, p, af, some (j, false)⟩ :: rest) s := sq_no hj ht hb rfl hd k
theorem su {j u : Nat} {want : Bool} (hj : gslot ops j = some u) (ht : Nat.blt u c.nt = true) (hb : Less (sget s.sl u) (.raw (.tuple #[]))) (hd : dOK c.nt d = true) (k : SeqWP c ops Q (i + 1) rest (s.put d (.raw (.tuple #[])))) :
    SeqWP c ops Q i (⟨d, op, t, p, af, some (j, want)⟩ :: rest) s := sq_no hj ht hb rfl hd k
theorem cl {x : Operand} {as : Array Operand} {ats : Array TypeId} {f : FuncId} {first cap args : List AV} {res : AV} [he : EnT c.P f] (h : dOK c.nt d = true ∧ Less (s.op x) (.fn (.func f) first cap) ∧ LessL (first ++ as.toList.map s.op ++ cap) args) (hc : APure c.P f args res)
    (k : SeqWP c ops Q (i + 1) rest (s.put d res)) : SeqWP c ops Q i (⟨d, .call ⟨.value x, as, ats⟩, t, p, af, none⟩ :: rest) s := sq_ev h.1 (ev_call he.h h.2.1 hc h.2.2) k
end seq
section cond
variable {c : Ctx} {Q : AExit → St → Prop} {s : St} {x : Operand} {y z : Code}
end cond
section split
variable {c : Ctx} {ops : Array Oper} {Q : AExit → St → Prop} {s : St} {i : Nat} {l : List Oper}
end split
section draw
variable {c : Ctx} {H0 : List AObj} {ops : Array Oper} {Q : AExit → St → Prop} {m i : Nat} {s : St} {rest : List Oper}
variable {d : Option Tmp} {op : Op} {t : TypeId} {p : String} {af : Array Edge}
theorem dn1 {j u : Nat} (hj : gslot ops j = some u) (ht : Nat.blt u c.nt = true) (hb : Less (sget s.sl u) (.raw (.bool false))) (hd : dOK c.nt d = true) (k : DR c H0 ops Q m (i + 1) rest (s.put d (.raw (.tuple #[])))) :
    DR c H0 ops Q m i (⟨d, op, t, p, af, some (j, true)⟩ :: rest) s := dr_no hj ht hb rfl hd k
theorem dn0 {j u : Nat} (hj : gslot ops j = some u) (ht : Nat.blt u c.nt = true) (hb : Less (sget s.sl u) (.raw (.bool true))) (hd : dOK c.nt d = true) (k : DR c H0 ops Q m (i + 1) rest (s.put d (.raw (.tuple #[])))) :
    DR c H0 ops Q m i (⟨d, op, t, p, af, some (j, false)⟩ :: rest) s := dr_no hj ht hb rfl hd k
theorem du {j u : Nat} {want : Bool} (hj : gslot ops j = some u) (ht : Nat.blt u c.nt = true) (hb : Less (sget s.sl u) (.raw (.tuple #[]))) (hd : dOK c.nt d = true) (k : DR c H0 ops Q m (i + 1) rest (s.put d (.raw (.tuple #[])))) :
    DR c H0 ops Q m i (⟨d, op, t, p, af, some (j, want)⟩ :: rest) s := dr_no hj ht hb rfl hd k
end draw
section ex
variable {c : Ctx} {Q : AExit → St → Prop} {K : St → Prop} {s : St} {id j : Nat}
theorem xn (h : K s) : AExit.then K Q .normal s := h
theorem xe (h : Q (.exit j) s) : AExit.then K Q (.exit j) s := h
theorem xr (h : Q .ret s) : AExit.then K Q .ret s := h
theorem bn (h : Q .normal s) : AExit.inBlock id Q .normal s := h
theorem be (h : Q .normal s) : AExit.inBlock id Q (.exit id) s := by simp only [AExit.inBlock]; rw [show Nat.beq id id = true from Nat.beq_refl id]; exact h
theorem br (h : Q .ret s) : AExit.inBlock id Q .ret s := h
theorem gr (h : Q .ret s) : AExit.noGoto Q .ret s := h
end ex
section app
variable {c : Ctx} {ops : Array Oper} {Q : AExit → St → Prop} {s : St} {i : Nat} {o : Oper} {l m : List Oper} {H0 : List AObj} {k : Nat}
end app
structure Cnt (n : Nat) : Prop where
theorem Cnt.pred {n : Nat} (_ : Cnt (n + 1)) : Cnt n := ⟨⟩
end Go.Ab
set_option linter.all false
namespace Go.Ab
section
variable [Tabs] {c : Ctx} {ops : Array Oper} {Q : AExit → St → Prop} {rest : List Oper} {s : St} {i : Nat}
variable {d : Option Tmp} {t : TypeId} {p : String} {af : Array Edge}
theorem sq_append_b {x y : Operand} {st xt et et' : TypeId} {j sz bytes : Nat} {es xs : List (List AV)} (hd : dOK c.nt d = true)
    (hf : SlFact c.P st et sz bytes) (hk : c.P.underlying xt = some (.slice et')) (hx : s.op x = .ownb j sz et es) (hj : s.H[j]? = some (.tok es.length)) (hy : Less (s.op y) (.sl sz xs)) (hpos : 0 < xs.length)
    (hb : (es.length + xs.length) * bytes ≤ 140737488355328) (h63 : es.length + xs.length ≤ 9223372036854775807)
    (k : SeqWP c ops Q (i + 1) rest (St.put { s with H := s.H.set j (.tok (es ++ xs).length) } d (.ownb j sz et (es ++ xs)))) : SeqWP c ops Q i (⟨d, .call ⟨.builtin .append, #[x, y], #[st, xt]⟩, t, p, af, none⟩ :: rest) s := by
  rw [List.length_append] at k
  refine sq_op fun e ac hs next hn' => ?_
  have hu := hs.op x
  rw [hx, Rep] at hu
  have hv := hy e _ (hs.op y)
  obtain ⟨a, len, cap, hv1, hlen, hle, hnil, hsz, hc, h7, h8, h9⟩ := hu
  subst hlen
  have hTj : e.T j = some es.length := by unfold Env.T; rw [hs.H, hj]; rfl
  have htail := h9 hTj
  have hjl : j < e.H.length := h7
  refine ⟨about_FW _ _ _ _ _, ?_⟩
  show Oper.uponIn (FW c.r) 0 c.P _ ac next (lift c Q) (((Oper.semAt c.r ac.eval ⟨d, .call ⟨.builtin .append, #[x, y], #[st, xt]⟩, t, p, af, none⟩)).run c.P e.w)
  rw [semAt_of (by intro c h; cases h)]
  have hex : (execOp ac.eval ⟨d, .call ⟨.builtin .append, #[x, y], #[st, xt]⟩, t, p, af, none⟩).run c.P e.w = ((Builtin.append_ #[st, xt] t #[.slice a es.length cap, ac.eval y]).run c.P e.w).andThen fun v w'' => .ok (.value v) w'' := by
    simp [execOp, resolve, invoke, builtin, hv1]
  rw [hex]
  by_cases hfit : es.length + xs.length ≤ cap
  · -- it fits
    obtain ⟨ti, z, k1, k2, ksz, rfl, k5, k6, k7⟩ := hf.ex
    subst ksz
    cases a with
    | none => have := hnil rfl; omega
    | some ad =>
      obtain ⟨hsp, hel⟩ := hc ad rfl
      obtain ⟨b, off, sp⟩ := ad
      have hsp := hsp (by omega); simp only at hsp; subst hsp
      obtain ⟨hoff, hm, hg, cs, hh, hcs⟩ := htail _ rfl
      dsimp only at hoff hm hg hh hcs hel
      subst hoff
      obtain ⟨news, hsrc, hnw⟩ := src_of hk hv
      have hbl := lt_of_heap hh
      have hnl : news.length = xs.length * ti.size := hsrc.newsLen
      have hxsz : ∀ q ∈ xs, q.length = ti.size := by rw [Rep] at hv; obtain ⟨_, _, _, _, _, _, _, h, _⟩ := hv; exact h
      have hroom : es.length * ti.size + news.length ≤ cs.size := by
        have h1 : (es.length + xs.length) * ti.size ≤ cap * ti.size := Nat.mul_le_mul_right _ hfit
        rw [Nat.add_mul] at h1
        omega
      have hst := run_storeCells_at (P := c.P) b (es.length * ti.size) et news 0 cs e.w hh (by simpa using hroom) hsrc.one
      simp only [Nat.add_zero] at hst
      generalize hcs' : (cs.toList.take (es.length * ti.size) ++ news ++ cs.toList.drop (es.length * ti.size + news.length)).toArray = cs' at hst
      have hrun : (Builtin.append_ #[st, xt] t #[.slice (some ⟨b, 0, none⟩) es.length cap, ac.eval y]).run c.P e.w = .ok (.slice (some ⟨b, 0, none⟩) (es.length + xs.length) cap) (e.w.setRow b cs') := by
        rcases hsrc.kind with ⟨e', he'⟩ | he' <;> simp [Builtin.append_, run_und k1, run_und hk, run_size k2, hsrc.len, hfit, hsrc.cells, Addr.add_lit, hst]
      have hsize' : cs'.size = cs.size := by rw [← hcs']; simp; omega
      have hget : ∀ (m : Nat), m < es.length * ti.size → cs'[m]? = cs[m]? := fun m hmlt => by
        rw [← hcs']
        simp only [List.getElem?_toArray]
        rw [List.append_assoc, List.getElem?_append_left (by simp; omega), List.getElem?_take_of_lt hmlt]; simp
      obtain ⟨hsim, hle'⟩ := hs.grew (j := j) (b := b) (n := es.length) (n' := es.length + xs.length) (g := (es.length + xs.length) * ti.size) (w' := e.w.setRow b cs') ⟨rfl, rfl⟩ hj (by omega) (.inl ⟨hm, hbl⟩) (by rw [hg, Nat.add_mul]; omega) (by simp) (by simpa using hbl)
        (fun b' _ hne => setRow_other _ _ _ _ hne) (fun m hmlt => by
          rw [hg] at hmlt
          unfold World.cell?
          simp only [setRow_heap _ _ _ _ _ _ hh, hh]
          simpa using hget m hmlt) (fun b' hb' h => by subst h; simp at hb'; omega)
      rw [hrun]
      refine hn' _ _ _ k (hsim.put hd ?_)
      rw [Rep]
      refine ⟨_, _, _, rfl, by simp, hfit, (fun h => by cases h), fun q hq => ?_, fun ad had => ?_, by simpa [Env.grew] using hjl, ⟨es.length + xs.length, by rw [Env.grew_T hjl, if_pos rfl], by simp⟩, fun _ ad had => ?_⟩
      · rcases List.mem_append.1 hq with h | h
        · exact hsz q h
        · exact hxsz q h
      · simp only [Option.some.injEq] at had; subst had
        refine ⟨fun _ => rfl, ElemsAt.append (ElemsAt.mono hle' es hel) hsz (ElemsAt.flat.2 ?_)⟩
        refine CellsAt.of_values (cs := cs') (t := et) (fr := (0, 0)) (by simpa [Env.grew] using setRow_heap _ _ _ _ _ _ hh) (RepL.mono hle' _ hnw) hsrc.one (fun m q hm' => ?_) ?_
        · rw [← hcs']
          simp only [List.getElem?_toArray]
          have hml := lt_of_get? hm'
          rw [List.getElem?_append_left (by simp; omega), List.getElem?_append_right (by simp; omega)]
          rw [show 0 + es.length * ti.size + m - (cs.toList.take (es.length * ti.size)).length = m by simp; omega]
          exact hm'
        · simp only [Env.grew, if_true]; rw [hnl, Nat.add_mul]; omega
      · simp only [Option.some.injEq] at had; subst had
        exact ⟨rfl, by simp [Env.grew], by simp [Env.grew], cs', by simpa [Env.grew] using setRow_heap _ _ _ _ _ _ hh, by omega⟩
  · -- it does not: a new row
    obtain ⟨cap', cs, w', hrun, hw, hst, hle2, hcs, hcells, hall⟩ := run_append_row (P := c.P) (t := t) (cap := cap) hs.ok hf hk rfl (fun h => by have := hnil h; omega) hsz (fun ad h => ⟨fun h2 => (hc ad h).1 (by omega), (hc ad h).2⟩) hv (by omega) hb h63
    have hwsz : w'.heap.size = e.w.heap.size + 1 := by simp [hw]
    obtain ⟨hsim, hle'⟩ := hs.grew (j := j) (b := e.w.heap.size) (n := es.length) (n' := es.length + xs.length) (g := (es.length + xs.length) * sz) (w' := w') hst hj (by omega) (.inr rfl) (by rw [hs.ok.fresh _ (Nat.le_refl _)]; omega) (by simp [hw]) (by simp [hw])
      (fun b' hb' hne => by rw [hw, Array.getElem?_push, if_neg hne]) (fun m hmlt => by rw [hs.ok.fresh _ (Nat.le_refl _)] at hmlt; omega) (fun b' hb' h => by omega)
    rw [hrun]
    refine hn' _ _ _ k (hsim.put hd ?_)
    rw [Rep]
    refine ⟨_, _, _, rfl, by simp, hle2, (fun h => by cases h), hall, fun ad had => ?_, by simpa [Env.grew] using hjl, ⟨es.length + xs.length, by rw [Env.grew_T hjl, if_pos rfl], by simp⟩, fun _ ad had => ?_⟩
    · simp only [Option.some.injEq] at had; subst had
      refine ⟨fun _ => rfl, ElemsAt.flat.2 ?_⟩
      obtain ⟨vs, q1, q2, q3⟩ := hcells.values
      have hxt : Ext e (e.row ((es.length + xs.length) * sz) w') := Env.row_ext hs.ok hw hst
      have le3 : (e.row ((es.length + xs.length) * sz) w').Le (e.grew j e.w.heap.size (es.length + xs.length) ((es.length + xs.length) * sz) w') := by
        have hT : ∀ i, (e.row ((es.length + xs.length) * sz) w').T i = e.T i := fun i => rfl
        refine ⟨by simp [Env.grew, Env.row], fun i hi ht => ?_, fun b' off ho => ⟨ho, rfl⟩, fun i m ht => ?_⟩
        · rw [hT] at ht
          have hij : i ≠ j := fun h => by subst h; rw [hTj] at ht; cases ht
          rw [Env.grew_T hjl, if_neg hij]; exact ⟨ht, fun _ hb => by simpa [Env.grew, hij, Env.row] using hb⟩
        · rw [hT] at ht
          by_cases hij : i = j
          · subst hij
            have : m = es.length := by rw [hTj] at ht; exact (Option.some.inj ht).symm
            subst this
            exact ⟨_, by rw [Env.grew_T hjl, if_pos rfl], by omega, fun h => by omega⟩
          · exact ⟨m, by rw [Env.grew_T hjl, if_neg hij]; exact ht, Nat.le_refl _, fun _ => ⟨by simp [Env.grew, hij, Env.row], fun b' cs t _ hh => ⟨rfl, cs, hh, rfl⟩⟩⟩
      exact CellsAt.mono le3 _ hcells
    · simp only [Option.some.injEq] at had; subst had
      exact ⟨rfl, by simp [Env.grew], by simp [Env.grew], cs, by simp [Env.grew, hw], by simp [hcs]⟩
end
section
variable [Tabs] {P : Program} {r : Option Nat} {H : List AObj} {ρ : Operand → AV}
variable {d : Option Tmp} {t : TypeId} {p : String} {af : Array Edge} {g : Option (Nat × Bool)} {x y : Operand}
end
section
variable [Tabs] {P : Program} {r : Option Nat} {H : List AObj} {ρ : Operand → AV}
variable {d : Option Tmp} {t : TypeId} {p : String} {af : Array Edge} {g : Option (Nat × Bool)} {x y : Operand}
end
section
variable [Tabs] {c : Ctx} {ops : Array Oper} {Q : AExit → St → Prop} {rest : List Oper} {s : St} {i : Nat}
variable {d : Option Tmp} {t : TypeId} {p : String} {af : Array Edge}
end
end Go.Ab
namespace Go.Ab
variable [Tabs]
section
variable {c : Ctx} {ops : Array Oper} {Q : AExit → St → Prop} {s : St} {i : Nat}
theorem sq_nilSub {s' : St} (h : Sub c s s') (q : Q .normal s') : SeqWP c ops Q i [] s := fun _ e a hs =>
  let ⟨e', hw, hs'⟩ := h e a hs
  ⟨.normal, s', e', q, hw, hs', rfl⟩
theorem sq_sub {l : List Oper} {s' : St} (h : Sub c s s') (k : SeqWP c ops Q i l s') : SeqWP c ops Q i l s := fun hd e a hs =>
  let ⟨e', hw, hs'⟩ := h e a hs
  hw ▸ k hd e' a hs'
section
variable {rest : List Oper} {d : Option Tmp} {t : TypeId} {p : String} {af : Array Edge} {sl : List (Nat × AV)} {A X : List AObj} {df : List ADef}
theorem sq_storeE {st : TypeId} {x y : Operand} {a : AV} {n : Nat} {bb : Bool} {l m : List AV} (hd : dOK c.nt d = true) (hdn : d = none)
    (hx : Less ((⟨sl, A ++ (X ++ [.cells l]), df⟩ : St).op x) (.ptr (A.length + X.length) 0)) (hy : Less ((⟨sl, A ++ (X ++ [.cells l]), df⟩ : St).op y) a) (hm : a.cells = some m) (ht : tySz c.P st = some (bb, n)) (hn : Nat.beq m.length n = true) (hl : Nat.beq l.length n = true)
    (k : SeqWP c ops Q (i + 1) rest ⟨sl, A ++ (X ++ [.cells m]), df⟩) : SeqWP c ops Q i (⟨d, .store st x y, t, p, af, none⟩ :: rest) ⟨sl, A ++ (X ++ [.cells l]), df⟩ := by
  subst hdn
  have hn' := Nat.eq_of_beq_eq_true hn
  have hl' := Nat.eq_of_beq_eq_true hl
  refine sq_store (j := A.length + X.length) (off := 0) (l := l) hd hx hy hm (by simp only; rw [← List.append_assoc, List.getElem?_append_right (by simp)]; simp) ht hn (by rw [hl']; simp) ?_
  have : (A ++ (X ++ [AObj.cells l])).set (A.length + X.length) (.cells (l.take 0 ++ m ++ l.drop (0 + m.length))) = A ++ (X ++ [.cells m]) := by
    rw [← List.append_assoc, List.set_append_right _ _ (by simp), List.length_append, Nat.sub_self, List.set_cons_zero, List.take_zero, Nat.zero_add, hn', ← hl', List.drop_length]; simp
  show SeqWP c ops Q (i + 1) rest ⟨sl, (A ++ (X ++ [AObj.cells l])).set (A.length + X.length) (.cells (l.take 0 ++ m ++ l.drop (0 + m.length))), df⟩
  rw [this]; exact k
theorem sq_frz (ks : List Nat) (u : Nat) {l : List Oper} {m : List AV} (hu : sget sl u = .ptr (A.length + X.length) 0)
    (k : SeqWP c ops Q i l ⟨(u, .iptr m) :: keepS sl ks, A ++ (X ++ [.dead]), df⟩) : SeqWP c ops Q i l ⟨sl, A ++ (X ++ [.cells m]), df⟩ := by
  have h := sub_iptrK (c := c) (s := ⟨sl, A ++ (X ++ [.cells m]), df⟩) ks u (j := A.length + X.length) (l := m) hu (by simp only; rw [← List.append_assoc, List.getElem?_append_right (by simp)]; simp)
  have e : (A ++ (X ++ [AObj.cells m])).set (A.length + X.length) .dead = A ++ (X ++ [.dead]) := by
    rw [← List.append_assoc, List.set_append_right _ _ (by simp), List.length_append, Nat.sub_self, List.set_cons_zero]; simp
  simp only [e] at h
  exact sq_sub h k
end
theorem keepS_skip {p : Nat} {x : AV} {sl : List (Nat × AV)} {ks : List Nat} (h : ∀ u ∈ ks, u ≠ p) : keepS ((p, x) :: sl) ks = keepS sl ks := by
  unfold keepS
  refine List.map_congr_left fun u hu => ?_
  have : (p == u) = false := by simpa using (h u hu).symm
  simp [sget, this]
end
end Go.Ab
namespace Go.Ab
variable [Tabs]
theorem jz {a : AV} : Less a a := Less.rfl' a
theorem gz {b : Bool} {a : AV} (hb : Less a (.raw (.bool b))) {c : Bool} (h : b = c := by first | with_reducible assumption | with_reducible rfl | with_reducible exact Bool.not_true | with_reducible exact Bool.not_false | exact rfl) : Less a (.raw (.bool c)) := h ▸ hb
theorem wq {k : IntKind} {m q : Int} (h : k.wrap m = q := by first | exact w64 (by omega) | exact w32 (by omega) | exact w8 (by omega)) : k.wrap m = q := h
theorem ezm {p : Prop} (h : p := by
  first
  | ((with_reducible apply ev_mv (v := .sl _ _)); exact jz)
  | ((with_reducible apply ev_as (v := .sl _ _)); exact jz)
  | ((with_reducible apply ev_mv (v := .tup _)); exact jz)
  | ((with_reducible apply ev_as (v := .tup _)); exact jz)
  | ((with_reducible apply ev_mv (v := .agg _)); exact jz)
  | ((with_reducible apply ev_as (v := .agg _)); exact jz)
  | ((with_reducible apply ev_mv (v := .own _ _ _)); exact jz)
  | ((with_reducible apply ev_as (v := .own _ _ _)); exact jz)
  | ((with_reducible apply ev_mv (v := .fn _ _ _)); exact jz)
  | ((with_reducible apply ev_as (v := .fn _ _ _)); exact jz)
  | ((with_reducible apply ev_mv (v := .ptr _ _)); exact jz)
  | ((with_reducible apply ev_as (v := .ptr _ _)); exact jz)
  | ((with_reducible apply ev_mv (v := .msl _ _ _ _)); exact jz)
  | ((with_reducible apply ev_as (v := .msl _ _ _ _)); exact jz)
  | ((with_reducible apply ev_mv (v := .slx _ _)); exact jz)
  | ((with_reducible apply ev_as (v := .slx _ _)); exact jz)
  | ((with_reducible apply ev_mv (v := .ifc _ _)); exact jz)
  | ((with_reducible apply ev_as (v := .ifc _ _)); exact jz)
  | ((with_reducible apply ev_mv (v := .mp _)); exact jz)
  | ((with_reducible apply ev_as (v := .mp _)); exact jz)) : p := h
theorem ezl {p : Prop} (h : p := by
  first
  | ((with_reducible apply ev_load); exact jz; exact rfl; exact TyF.h; exact rfl)
  | ((with_reducible apply ev_fieldAddr); exact FoF.h; exact jz)
  | ((with_reducible apply ev_load_agg); exact jz; exact rfl; exact TyF.h; exact rfl)
  | ((with_reducible apply ev_load_i); exact jz; exact TyF.h; exact rfl)
  | ((with_reducible apply ev_fieldAddr_i); exact FoF.h; exact jz)
  | ((with_reducible apply ev_load_agg_i); exact jz; exact TyF.h; exact Nat.le_of_ble_eq_true rfl)
  | ((with_reducible apply ev_index_map); exact SlE.h; exact jz; exact jz; exact rfl; omega)
  | ((with_reducible apply ev_index); exact SlE.h; exact jz; exact jz; exact rfl; exact rfl)
  | ((with_reducible apply ev_idxS); exact UnD.h; exact jz; exact jz; exact rfl; omega)
  | ((with_reducible apply ev_field); exact FoF.h; exact TyF.h; exact jz; exact rfl)
  | ((with_reducible apply ev_field_agg); exact FoF.h; exact TyF.h; exact jz)
  | ((with_reducible apply ev_indexv); exact ArE.h; exact TyF.h; exact jz; exact jz; exact rfl; omega; exact rfl)
  | ((with_reducible apply ev_indexv_agg); exact ArE.h; exact TyF.h; exact jz; exact jz; exact rfl; omega)
  | ((with_reducible apply ev_index_box); exact ArE.h; exact jz; exact jz; exact rfl; first | decide | omega)
  | ((with_reducible apply ev_index_box_i); exact ArE.h; exact jz; exact jz; exact rfl; first | decide | omega)) : p := h
theorem ezb {p : Prop} (h : p := by
  first
  | ((with_reducible apply ev_not); exact jz)
  | ((with_reducible apply ev_neq); exact jz; exact jz)
  | ((with_reducible apply ev_lss); exact jz; exact jz)
  | ((with_reducible apply ev_eql); exact jz; exact jz)
  | ((with_reducible apply ev_geq); exact jz; exact jz)
  | ((with_reducible apply ev_leq); exact jz; exact jz)
  | ((with_reducible apply ev_gtr); exact jz; exact jz)
  | ((with_reducible apply ev_add); exact jz; exact jz; exact wq)
  | ((with_reducible apply ev_sub); exact jz; exact jz; exact wq)
  | ((with_reducible apply ev_mul); exact jz; exact jz; exact wq)
  | ((with_reducible apply ev_neqB); exact UnD.h; exact jz; exact jz)
  | ((with_reducible apply ev_eqlB); exact UnD.h; exact jz; exact jz)
  | ((with_reducible apply ev_seqS); exact jz; exact jz)
  | ((with_reducible apply ev_sneS); exact jz; exact jz)
  | ((with_reducible apply ev_catS); exact jz; exact jz; (simp; omega))
  | ((with_reducible apply ev_rem); exact jz; exact jz; decide)
  | ((with_reducible apply ev_quo); exact jz; exact jz; decide; exact wq)) : p := h
theorem ezo {p : Prop} (h : p := by
  first
  | ((with_reducible apply ev_extract); exact jz; exact rfl)
  | ((with_reducible apply ev_len_map); exact SlE.h; exact jz)
  | ((with_reducible apply ev_len_map); exact SlE.h; exact less_own _ _ _)
  | ((with_reducible apply ev_len); exact SlE.h; exact jz; exact rfl)
  | ((with_reducible apply ev_len); exact SlE.h; exact less_own _ _ _; exact rfl)
  | ((with_reducible apply ev_len); exact SlE.h; exact less_nil _; exact rfl)
  | ((with_reducible apply ev_len_msl); exact SlE.h; exact jz)
  | ((with_reducible apply ev_len); exact SlE.h; exact less_slx _ _; exact rfl)
  | ((with_reducible apply ev_lenS); exact UnD.h; exact jz)
  | ((with_reducible apply ev_build); exact BdI.h; exact rfl)
  | (with_reducible apply ev_makeFunc)
  | ((with_reducible apply ev_makeIface); exact NiF.h; exact jz)
  | ((with_reducible apply ev_nilCheck); exact jz)
  | ((with_reducible apply ev_min2); exact jz; exact jz)
  | ((with_reducible apply ev_max2); exact jz; exact jz)
  | ((with_reducible apply ev_conv_int); exact UnD.h; exact UnD.h; exact jz; exact wq)
  | ((with_reducible apply ev_bytesS (ns := [_])); exact UnD.h; exact UnD.h; exact UnD.h; exact less_slx _ _)
  | ((with_reducible apply ev_slice); exact SlE.h; exact jz; first | exact rfl | exact jz; first | exact rfl | exact jz; omega; omega)) : p := h
theorem ez {p : Prop} (h : p := by
  first
  | ((with_reducible apply ev_mv (v := .raw _)); exact jz)
  | ((with_reducible apply ev_as (v := .raw _)); exact jz)
  | ((with_reducible apply ev_pickT (v := .raw _)); exact gz jz; exact jz)
  | ((with_reducible apply ev_pickF (v := .raw _)); exact gz jz; exact jz)
  | exact ezl
  | exact ezb
  | exact ezo
  | exact ezm) : p := h
theorem lz {p : Prop} (h : p := by first | exact trivial | exact ⟨jz, trivial⟩ | exact ⟨jz, jz, trivial⟩ | exact ⟨jz, jz, jz, trivial⟩ | exact ⟨jz, jz, jz, jz, trivial⟩ | exact ⟨jz, jz, jz, jz, jz, trivial⟩ | exact ⟨jz, jz, jz, jz, jz, jz, trivial⟩ | exact ⟨jz, jz, jz, jz, jz, jz, jz, trivial⟩ | exact ⟨jz, jz, jz, jz, jz, jz, jz, jz, trivial⟩) : p := h
theorem az {p : Prop} (h : p := by exact ⟨rfl, jz, lz⟩) : p := h
section seq
variable {c : Ctx} {ops : Array Oper} {Q : AExit → St → Prop} {rest : List Oper} {s : St} {i : Nat}
variable {d : Option Tmp} {op : Op} {t : TypeId} {p : String} {af : Array Edge}
theorem kz {x : Operand} {as : Array Operand} {ats : Array TypeId} {f : FuncId} {first cap args : List AV} {res : AV} [he : EnT c.P f] (h : dOK c.nt d = true ∧ Less (s.op x) (.fn (.func f) first cap) ∧ LessL (first ++ as.toList.map s.op ++ cap) args) (hc : APure c.P f args res)
    (k : SeqWP c ops Q (i + 1) rest (s.put d res)) : SeqWP c ops Q i (⟨d, .call ⟨.value x, as, ats⟩, t, p, af, none⟩ :: rest) s := sq_ev h.1 (ev_call he.h h.2.1 hc h.2.2) k
theorem ky {j u : Nat} {want : Bool} {x : Operand} {as : Array Operand} {ats : Array TypeId} {f : FuncId} {first cap args : List AV} {res : AV} [he : EnT c.P f] (h : dOK c.nt d = true ∧ Less (s.op x) (.fn (.func f) first cap) ∧ LessL (first ++ as.toList.map s.op ++ cap) args) (hc : APure c.P f args res)
    (k : SeqWP c ops Q (i + 1) rest (s.put d res)) (hj : gslot ops j = some u := by exact rfl) (ht : Nat.blt u c.nt = true := by exact rfl) (hb : Less (sget s.sl u) (.raw (.bool want)) := by exact gz jz) :
    SeqWP c ops Q i (⟨d, .call ⟨.value x, as, ats⟩, t, p, af, some (j, want)⟩ :: rest) s := sq_yes hj ht hb h.1 (ev_call he.h h.2.1 hc h.2.2) k
end seq
section draw
variable {c : Ctx} {H0 : List AObj} {ops : Array Oper} {Q : AExit → St → Prop} {m i : Nat} {s : St} {rest : List Oper}
variable {d : Option Tmp} {op : Op} {t : TypeId} {p : String} {af : Array Edge}
theorem dkz {x : Operand} {as : Array Operand} {ats : Array TypeId} {f : FuncId} {first cap args : List AV} {res : AV} [he : EnT c.P f] (h : dOK c.nt d = true ∧ Less (s.op x) (.fn (.func f) first cap) ∧ LessL (first ++ as.toList.map s.op ++ cap) args) (hc : APure c.P f args res)
    (k : DR c H0 ops Q m (i + 1) rest (s.put d res)) : DR c H0 ops Q m i (⟨d, .call ⟨.value x, as, ats⟩, t, p, af, none⟩ :: rest) s := dr_ev h.1 (ev_call he.h h.2.1 hc h.2.2) k
theorem dky {j u : Nat} {want : Bool} {x : Operand} {as : Array Operand} {ats : Array TypeId} {f : FuncId} {first cap args : List AV} {res : AV} [he : EnT c.P f] (h : dOK c.nt d = true ∧ Less (s.op x) (.fn (.func f) first cap) ∧ LessL (first ++ as.toList.map s.op ++ cap) args) (hc : APure c.P f args res)
    (k : DR c H0 ops Q m (i + 1) rest (s.put d res)) (hj : gslot ops j = some u := by exact rfl) (ht : Nat.blt u c.nt = true := by exact rfl) (hb : Less (sget s.sl u) (.raw (.bool want)) := by exact gz jz) :
    DR c H0 ops Q m i (⟨d, .call ⟨.value x, as, ats⟩, t, p, af, some (j, want)⟩ :: rest) s := dr_yes hj ht hb h.1 (ev_call he.h h.2.1 hc h.2.2) k
end draw
theorem vz (n : Nat) {p q : Prop} (k : q) (h : Cnt n → (Unit → q) → p := by
  intro hc hk
  repeat (
    replace hc := Cnt.pred hc
    repeat (with_reducible (first | refine xn ?_ | refine sa ?_ | refine sa0 ?_ | refine aw_seq ?_ | refine aw_region ?_ | refine sq_nil ?_ | refine aw_skip ?_ | refine aw_block ?_ | refine bn ?_ | refine aw_exit ?_ | refine xe ?_ | refine be ?_ | refine bo ?_ | refine gn ?_ | refine ge ?_ | refine xr ?_ | refine br ?_ | refine gr ?_ | refine aw_label ?_ | refine aw_scope ?_))
    first
    | ((with_reducible apply sq_ev); exact rfl; exact ez)
    | ((with_reducible apply sn1); exact rfl; exact rfl; exact gz jz; exact rfl)
    | ((with_reducible apply sn0); exact rfl; exact rfl; exact gz jz; exact rfl)
    | ((with_reducible apply sq_yes); exact rfl; exact rfl; exact gz jz; exact rfl; exact ez)
    | ((with_reducible apply su); exact rfl; exact rfl; exact jz; exact rfl)
    | ((with_reducible apply sq_box); exact rfl; exact jz; exact rfl)
    | ((with_reducible apply sq_alloc); exact rfl; exact ZeO.h)
    | ((with_reducible apply sq_store); exact rfl; exact jz; exact jz; exact rfl; exact rfl; exact TyF.h; exact rfl; exact rfl)
    | ((with_reducible refine aw_true ?_ ?_); exact gz jz)
    | ((with_reducible refine aw_false ?_ ?_); exact gz jz))
  exact hk ()) : p := h ⟨⟩ fun _ => k
theorem wz (n : Nat) {p q : Prop} (k : q) (h : Cnt n → (Unit → q) → p := by
  intro hc hk
  repeat (
    replace hc := Cnt.pred hc
    repeat (with_reducible (first | refine xn ?_ | refine sa ?_ | refine sa0 ?_ | refine aw_seq ?_ | refine aw_region ?_ | refine sq_nil ?_ | refine aw_skip ?_ | refine aw_block ?_ | refine bn ?_ | refine aw_exit ?_ | refine xe ?_ | refine be ?_ | refine bo ?_ | refine gn ?_ | refine ge ?_ | refine xr ?_ | refine br ?_ | refine gr ?_ | refine aw_label ?_ | refine aw_scope ?_))
    first
    | ((with_reducible apply sq_ev); exact rfl; exact ez)
    | ((with_reducible apply sn1); exact rfl; exact rfl; exact gz jz; exact rfl)
    | ((with_reducible apply sn0); exact rfl; exact rfl; exact gz jz; exact rfl)
    | ((with_reducible apply sq_yes); exact rfl; exact rfl; exact gz jz; exact rfl; exact ez)
    | ((with_reducible apply su); exact rfl; exact rfl; exact jz; exact rfl)
    | ((with_reducible apply sq_box); exact rfl; exact jz; exact rfl)
    | ((with_reducible apply sq_alloc); exact rfl; exact ZeO.h)
    | ((with_reducible apply sq_store); exact rfl; exact jz; exact jz; exact rfl; exact rfl; exact TyF.h; exact rfl; exact rfl)
    | ((with_reducible refine aw_true ?_ ?_); exact gz jz)
    | ((with_reducible refine aw_false ?_ ?_); exact gz jz))
  repeat (with_reducible (first | refine xn ?_ | refine sa ?_ | refine sa0 ?_ | refine aw_seq ?_ | refine aw_region ?_ | refine sq_nil ?_ | refine aw_skip ?_ | refine aw_block ?_ | refine bn ?_ | refine aw_exit ?_ | refine xe ?_ | refine be ?_ | refine bo ?_ | refine gn ?_ | refine ge ?_ | refine xr ?_ | refine br ?_ | refine gr ?_ | refine aw_label ?_ | refine aw_scope ?_ | refine aw_ret ?_))
  exact hk ()) : p := h ⟨⟩ fun _ => k
theorem dz (n : Nat) {p q : Prop} (k : q) (h : Cnt n → (Unit → q) → p := by
  intro hc hk
  repeat (
    replace hc := Cnt.pred hc
    repeat (with_reducible (first | refine da ?_ | refine da0 ?_))
    first
    | ((with_reducible apply dr_ev); exact rfl; exact ez)
    | ((with_reducible apply dn1); exact rfl; exact rfl; exact gz jz; exact rfl)
    | ((with_reducible apply dn0); exact rfl; exact rfl; exact gz jz; exact rfl)
    | ((with_reducible apply dr_yes); exact rfl; exact rfl; exact gz jz; exact rfl; exact ez)
    | ((with_reducible apply du); exact rfl; exact rfl; exact jz; exact rfl))
  try refine dr_end ?_
  exact hk ()) : p := h ⟨⟩ fun _ => k
theorem qz : (∀ (p : Prop) [Decidable p], (decide p = true) = p) ∧ (∀ (p : Prop) [Decidable p], decide p = false ↔ ¬p) ∧ (∀ b : Bool, ((!b) = true) = (b = false)) ∧ (∀ b : Bool, ((!b) = false) = (b = true)) ∧ (∀ a b : Bool, ((a && b) = true) = (a = true ∧ b = true)) ∧ (∀ a b : Bool, ((a || b) = true) = (a = true ∨ b = true)) ∧ (∀ a b : Bool, (a && b) = false ↔ a = false ∨ b = false) ∧ (∀ a b : Bool, (a || b) = false ↔ a = false ∧ b = false) ∧ (!true) = false ∧ (!false) = true ∧ (∀ {α β : Type} (f : α → β) (l : List α), (l.map f).length = l.length) ∧ (∀ {α : Type} (a b : α), (a ≠ b) = ¬(a = b)) ∧ (∀ (p : Prop) [Decidable p], ¬¬p ↔ p) :=
  ⟨@decide_eq_true_eq, @decide_eq_false_iff_not, by simp, by simp, by simp, by simp, by simp, by simp, rfl, rfl, fun f l => List.length_map .., by simp, fun p _ => Decidable.not_not⟩
section cond
variable {c : Ctx} {Q : AExit → St → Prop} {s : St} {x : Operand} {y z : Code} {b : Bool} {p q : Prop}
theorem iz (h1 : b = true → p → AWP c y Q s) (h2 : b = false → q → AWP c z Q s) (hb : Less (s.op x) (.raw (.bool b)) := by exact jz)
    (e1 : b = true → p := by first | (intro h; simp only [qz] at h; exact h) | exact fun h => h) (e2 : b = false → q := by first | (intro h; simp only [qz] at h; exact h) | exact fun h => h) : AWP c (.cond x y z) Q s :=
  aw_cond hb (fun h => h1 h (e1 h)) (fun h => h2 h (e2 h))
end cond
section split
variable {c : Ctx} {ops : Array Oper} {Q : AExit → St → Prop} {s : St} {i : Nat} {l : List Oper} {b : Bool} {p q : Prop}
theorem sz (u : Nat) (h1 : b = true → p → SeqWP c ops Q i l s) (h2 : b = false → q → SeqWP c ops Q i l s) (hb : Less (sget s.sl u) (.raw (.bool b)) := by exact jz)
    (e1 : b = true → p := by first | (intro h; simp only [qz] at h; exact h) | exact fun h => h) (e2 : b = false → q := by first | (intro h; simp only [qz] at h; exact h) | exact fun h => h) : SeqWP c ops Q i l s :=
  sq_split u hb (fun h => h1 h (e1 h)) (fun h => h2 h (e2 h))
theorem dsz {H0 : List AObj} {m : Nat} (u : Nat) (h1 : b = true → p → DR c H0 ops Q m i l s) (h2 : b = false → q → DR c H0 ops Q m i l s) (hb : Less (sget s.sl u) (.raw (.bool b)) := by exact jz)
    (e1 : b = true → p := by first | (intro h; simp only [qz] at h; exact h) | exact fun h => h) (e2 : b = false → q := by first | (intro h; simp only [qz] at h; exact h) | exact fun h => h) : DR c H0 ops Q m i l s :=
  dr_split u hb (fun h => h1 h (e1 h)) (fun h => h2 h (e2 h))
end split
theorem nz {p q : Prop} (k : q) (h : (Unit → q) → p := by
  intro hk
  try dsimp only [keepS, St.put, sget, slotsOf, List.map_cons, List.map_nil, List.cons_append, List.nil_append, List.length_cons, List.length_nil, Nat.reduceBEq, Nat.reduceAdd, cond_true, cond_false]
  exact hk ()) : p := h fun _ => k
theorem ap {P : Program} {f : FuncId} {fn : Func} {code : Code} {args : List AV} {res : AV} {rs : List ResultVar} (hf : P.funcs[f]? = some fn)
    (h : ∀ e0, e0.H = [] → AWP ⟨P, none, fn.ntmps, e0⟩ code (retQ P rs fun x _ => ∃ v, x = .ret v ∧ Less v res) ⟨slotsOf 0 args, [], []⟩)
    (hb : fn.body = some code := by exact rfl) (hrs : fn.results = rs.toArray := by exact rfl) (hn : Nat.ble args.length fn.ntmps = true := by exact rfl)
    (hp : AV.pureL args = true := by simp [AV.pureL, AV.pureB, AV.pureE, pureE_map]) (hr : res.pureB = true := by first | rfl | (simp [AV.pureL, AV.pureB, AV.pureE, pureE_map])) : APure P f args res :=
  apure_of hf hb hrs (Nat.le_of_ble_eq_true hn) hp hr h
theorem rz {P : Program} {rs : List ResultVar} {res : AV} {x : Value} {s : St} (hv : resAV P s rs = some (.raw x)) (hl : Less (.raw x) res) (hd : s.df = [] := by exact rfl) :
    retQ P rs (fun x _ => ∃ v, x = .ret v ∧ Less v res) .ret s := retQ_pure hd hv hl
theorem sb {c : Ctx} {s : St} {sl' : List (Nat × AV)} {H' : List AObj} (n : Nat) (h : LessS s.sl sl') (hH : s.H.take n = H' := by exact rfl)
    (h1 : slotsIn n sl' = true := by simp [slotsIn, objsIn, sget, keepS, AObj.inB, AV.inB, AV.inL, AV.inE, inE_map, -List.map_append, -List.map_take, -List.map_map]) (h2 : objsIn n H' = true := by simp [slotsIn, objsIn, sget, keepS, AObj.inB, AV.inB, AV.inL, AV.inE, inE_map, -List.map_append, -List.map_take, -List.map_map])
    (hn : c.e0.H.length ≤ H'.length := by simp [he0]) (h3 : dfIn n s.df = true := by exact rfl) : Sub c s ⟨sl', H', s.df⟩ := Sub.fin n h hH h1 h2 hn h3
end Go.Ab
namespace Go.Ab
variable [Tabs]
def LoopAt (e : Env) (l : Nat) : Prop := (∃ rec, e.w.heap[l]? = some (.loop rec)) ∧ ∀ i, i < e.H.length → e.μ i ≠ some l
theorem LoopAt.now {c : Ctx} {s : St} {e : Env} {a : Act} {l : Nat} (h : LoopAt c.e0 l) (hs : Sim c s e a) : ∃ rec, e.w.heap[l]? = some (.loop rec) := by
  obtain ⟨⟨rec, h1⟩, h2⟩ := h
  exact ⟨rec, (hs.fr.heap l (lt_of_heap h1) h2).1.trans h1⟩
def Enters (c : Ctx) (s : St) (p : Tmp) (assign body : Code) (DD : List AObj) (DM : List ADef) : Prop :=
  ∀ e a, Sim c s e a → ∀ fn, ∃ (jl db : Nat) (mark : List Deferred) (E1 : Env),
    (Instr.enterLoop fn a.tmps #[p] assign body c.r).run c.P e.w = .ok (jl, mark) E1.w ∧
    E1.H = s.H ++ (DD ++ [.raw (.loop { state := .ready, pending := none, fn, tmps := a.tmps, params := #[p], assign, body, defers := db })]) ∧
    E1.μ (s.H.length + DD.length) = some jl ∧ e.Le E1 ∧ EnvOK E1 ∧ Fr c.e0 E1 ∧
    ∀ e', E1.Le e' → ∀ H0 X, H0.length = s.H.length → e'.H = H0 ++ (DD ++ X) → DRepL (e'.cut (s.H.length + DD.length)) (DM ++ s.df) (mark ++ a.defers)
theorem enters_outer {c : Ctx} {s : St} {p : Tmp} {assign body : Code} (hr : c.r = none) : Enters c s p assign body [.raw (.deferred (some []))] [.mark s.H.length] := by
  intro e a hs fn
  obtain ⟨rec, hrec⟩ : ∃ rec : Loop, rec = { state := .ready, pending := none, fn, tmps := a.tmps, params := #[p], assign, body, defers := e.w.heap.size } := ⟨_, rfl⟩
  have hn : e.H.length = s.H.length := by rw [hs.H]
  have s1 := hs.push (o := .raw (.deferred (some []))) (ob := .deferred (some [])) (push_raw hs.ok _)
  have s2 := s1.push (o := .raw (.loop rec)) (ob := .loop rec) (push_raw s1.ok _)
  have hb2 : ((e.push (.raw (.deferred (some []))) (.deferred (some []))).push (.raw (.loop rec)) (.loop rec)).μ (s.H.length + 1) = some (e.w.heap.size + 1) := by simp [Env.push, hn]
  have hb1 : ((e.push (.raw (.deferred (some []))) (.deferred (some []))).push (.raw (.loop rec)) (.loop rec)).μ s.H.length = some e.w.heap.size := by simp [Env.push, hn]
  have h1 := Env.push_le hs.ok (.raw (.deferred (some []))) (.deferred (some []))
  have h2 := h1.trans (Env.push_le s1.ok (.raw (.loop rec)) (.loop rec))
  have hw1 : ((e.push (.raw (.deferred (some []))) (.deferred (some []))).push (.raw (.loop rec)) (.loop rec)).w = (e.w.alloc (.deferred (some []))).alloc (.loop rec) := rfl
  generalize hE1 : (e.push (.raw (.deferred (some []))) (.deferred (some []))).push (.raw (.loop rec)) (.loop rec) = E1 at s2 hb2 hb1 h2 hw1
  have hH1 : E1.H = s.H ++ ([.raw (.deferred (some []))] ++ [.raw (.loop rec)]) := by rw [s2.H]; simp
  refine ⟨e.w.heap.size + 1, e.w.heap.size, [{ target := .collected e.w.heap.size, args := #[] }], E1, ?_, by rw [hH1, hrec], hb2, h2, s2.ok, s2.fr, fun e' hle H0 X hl hH => ?_⟩
  · rw [hr, hw1, hrec]; exact run_enterLoop_outer _ _ _ _ _
  have hμD : e'.μ s.H.length = some e.w.heap.size := (hle.obj s.H.length (by rw [hH1]; simp) (by
    unfold Env.T; rw [hH1, List.getElem?_append_right (Nat.le_refl _)]; simp [tokOf])).2 _ hb1
  have hcH : (e'.cut (s.H.length + 1)).H = H0 ++ [.raw (.deferred (some []))] := by
    rw [cut_H, hH, ← List.append_assoc]
    exact List.take_left' (by simp [hl])
  refine DRepL.cons ⟨by simp only [List.length_singleton]; rw [hcH]; simp [hl], ?_, _, hμD, rfl⟩ (hs.defers.mono (le_cut (h2.trans hle) (by simp only [List.length_singleton]; omega)))
  simp only [List.length_singleton]
  unfold Env.T; rw [hcH, List.getElem?_append_right (by omega), hl]; simp [tokOf]
/-- **An iterator**, where what is consumed knows its own objects alone. -/
def AIter2 (P : Program) (f : FuncId) (first caps : List AV) (xs : List AV) : Prop :=
  ∀ (m : Nat) (st : Bool), m ≤ xs.length → (st = false → m = xs.length) → (st = true → 0 < m) →
    ∀ l (T : Nat → List AObj) e (vs : Array Value), (∀ i, (T i).length = (T 0).length) → (∀ i, i ≤ m → objsIn (T 0).length (T i) = true) → EnvOK e → e.H = T 0 → RepL e (first ++ [.fn (.yield l) [] []] ++ caps) vs.toList →
    (∀ i x, i < m → xs[i]? = some x → ∀ X, AYieldAt e P l x (T i ++ X) (goes m st i) (T (i + 1) ++ X)) →
    CallsIn (FW none) 0 P f vs e.w fun x w' => ∃ u e', x = .returned u ∧ e'.w = w' ∧ EnvOK e' ∧ Fr e e' ∧ ∃ X, e'.H = T m ++ X
section range
variable {c : Ctx} {Q : AExit → St → Prop} {s : St}
/-- **A range over a function**, wherever it stands: T tells the objects behind so many rounds; m rounds are made; the last one leaves by the jump, if there is one. -/
theorem aw_rangeFuncG {g : Operand} {p : Tmp} {assign body : Code} {f : FuncId} {first caps xs : List AV} (T : Nat → List AObj) (m : Nat) (jump : Option Code) (sl1 : Nat → AV → List (Nat × AV))
    (hm : m ≤ xs.length) (hj : jump = none → m = xs.length) (hj' : jump ≠ none → 0 < m) (hjo : jumpOK jump = true) {DD : List AObj} {DM : List ADef} (hen : Enters c s p assign body DD DM) (hDD : ∀ k, objsIn k DD = true) (hg : Less (s.op g) (.fn (.func f) first caps)) (he : Ent c.P f) (hit : AIter2 c.P f first caps xs)
    (hT0 : T 0 = s.H) (hlen : ∀ i, (T i).length = s.H.length) (hin : ∀ i, i ≤ m → objsIn s.H.length (T i) = true) (hpx : ∀ x ∈ xs, x.pureB = true) (hp : Nat.blt p c.nt = true)
    (ha : ∀ l i x e0, i < m → xs[i]? = some x → e0.H = T i → AWP ⟨c.P, some l, c.nt, e0⟩ assign (fun ax s' => ax = .normal ∧ s' = ⟨sl1 i x, T i, []⟩) ⟨(p, x) :: s.sl, T i, []⟩)
    (hb : ∀ l i x e0, i < m → xs[i]? = some x → e0.H = T i → LoopAt e0 l → c.e0.Le e0 → AWP ⟨c.P, some l, c.nt, e0⟩ body (fun ax s' => (∃ Y, s'.H = T (i + 1) ++ Y) ∧ s'.df = [] ∧ jumpEx (if i + 1 = m then jump else none) ax) ⟨sl1 i x, T i, []⟩)
    (k : ∀ ax, jumpEx jump ax → Q ax ⟨s.sl, T m ++ DD, DM ++ s.df⟩) :
    AWP c (.rangeFunc g #[p] assign body) Q s := by
  intro e a hs
  refine wpIn_rangeFunc fun fn hfn => ?_
  have hgr := hg e _ (hs.op g)
  rw [Rep] at hgr
  obtain ⟨fv, cv, hfv, r1, r2⟩ := hgr
  let n := s.H.length
  let q := n + DD.length
  have hn : e.H.length = n := by rw [hs.H]
  obtain ⟨jl, db, mark, E1, hrun, hH1', hb2, h2, okE1, frE1, hdr⟩ := hen e a hs fn
  obtain ⟨rec, hrec⟩ : ∃ rec : LoopState → Option Code → Loop, rec = fun st pe => { state := st, pending := pe, fn, tmps := a.tmps, params := #[p], assign, body, defers := db } := ⟨_, rfl⟩
  have hr1 : ∀ st pe st', { rec st pe with state := st' } = rec st' pe := by intros; rw [hrec]
  have hr2 : ∀ st pe st' pe', { rec st pe with state := st', pending := pe' } = rec st' pe' := by intros; rw [hrec]
  let L : LoopState → Option Code → AObj := fun st pe => .raw (.loop (rec st pe))
  have hH1 : E1.H = T 0 ++ (DD ++ [L .ready none]) := by rw [hH1', hT0]; simp only [L, hrec]
  refine ⟨jl, mark, E1.w, { target := .fn (.func f) cv, args := fv ++ #[.func (.yield jl) #[] #[]] }, E1.w, f, fv ++ #[.func (.yield jl) #[] #[]] ++ cv, E1.w, hrun, ?_, fun _ _ => trivial, ?_, fun h => by simp [FW] at h, ?_⟩
  · simp only [resolve, rangeCall, hfv, Deferred.ofValue]
    simp [Act.eval]
  · exact he (fv ++ #[.func (.yield jl) #[] #[]] ++ cv) E1.w
  have hTq : E1.T q = none := by
    unfold Env.T; rw [hH1, List.getElem?_append_right (by rw [hT0]; omega), hT0, List.getElem?_append_right (by omega)]; simp [n, q, L, tokOf]
  let st := jump.isSome
  let Lk : Nat → AObj := fun i => if st && Nat.beq i m then L .done jump else L .ready none
  have hm0 : ¬ (st = true ∧ m = 0) := fun ⟨h1, h2⟩ => by
    have := hj' (by rintro rfl; simp [st] at h1); omega
  have hLk0 : Lk 0 = L .ready none := by
    simp only [Lk]
    cases hst : st with
    | false => rfl
    | true =>
      have : Nat.beq 0 m = false := by cases hb : Nat.beq 0 m with | false => rfl | true => exact absurd ⟨hst, (Nat.eq_of_beq_eq_true hb).symm⟩ hm0
      simp [this]
  let T' : Nat → List AObj := fun i => T i ++ (DD ++ [Lk i])
  have hT' : ∀ i, (T' i).length = q + 1 := fun i => by simp [T', hlen, n, q]; omega
  have hTin : ∀ i, i ≤ m → objsIn (T' 0).length (T' i) = true := fun i hi => by
    rw [hT']
    show objsIn (q + 1) (T i ++ (DD ++ [Lk i])) = true
    rw [objsIn_append, objsIn_append, Bool.and_eq_true, Bool.and_eq_true]
    refine ⟨objsIn_mono (by omega) (hin i hi), hDD _, ?_⟩
    simp only [Lk]; split <;> rfl
  refine CallsIn.mono (hit m st hm (fun h => hj (by cases jump <;> simp_all [st])) (fun h => hj' (by rintro rfl; simp [st] at h)) jl T' E1 _ (fun i => by rw [hT', hT']) hTin okE1 (by rw [hH1]; simp only [T', hLk0])
    ?_ ?_) ?_
  · have l1 : RepL E1 first fv.toList := RepL.mono h2 _ r1
    have l2 : RepL E1 caps cv.toList := RepL.mono h2 _ r2
    have l3 : RepL E1 [.fn (.yield jl) [] []] [.func (.yield jl) #[] #[]] := RepL.cons (by rw [Rep]; exact ⟨#[], #[], rfl, RepL.nil, RepL.nil⟩) RepL.nil
    simpa using (l1.append l3).append l2
  · -- one round
    intro i x hi hx X E v hle ok hH hv
    have hLi : Lk i = L .ready none := by
      simp only [Lk]
      have : Nat.beq i m = false := by cases hb : Nat.beq i m with | false => rfl | true => exact absurd (Nat.eq_of_beq_eq_true hb) (by omega)
      simp [this]
    have hlT := hlen i
    have hHE : E.H[q]? = some (L .ready none) := by
      rw [hH]; simp only [T', hLi, List.append_assoc]
      rw [List.getElem?_append_right (by omega), hlT, List.getElem?_append_right (by omega)]; simp [n, q]
    have hμE : E.μ q = some jl := (hle.obj q (by rw [hH1]; simp [hT0, n, q]) hTq).2 _ hb2
    obtain ⟨b', hb', hloop, _⟩ := ok.objs _ _ hHE
    rw [hμE] at hb'; cases hb'
    have hcH0 : (E.cut n).H = T i := by rw [cut_H, hH]; simp only [T', List.append_assoc]; exact List.take_left' hlT
    have okc0 : EnvOK (E.cut n) := cut_ok ok (by rw [← cut_H, hcH0]; exact hin i (by omega))
    have hlec0 : e.Le (E.cut n) := le_cut (h2.trans hle) (by omega)
    have hsim0 : Sim ⟨c.P, some jl, c.nt, E.cut n⟩ ⟨(p, x) :: s.sl, T i, []⟩ (E.cut n) { tmps := ((#[p] : Array Tmp).zip #[v]).foldl (fun tmps (t, a) => tmps.setIfInBounds t a) a.tmps, defers := [] } := by
      have hpl : p < a.tmps.size := by rw [hs.size]; simpa [Nat.blt_eq] using hp
      have ht : ((#[p] : Array Tmp).zip #[v]).foldl (fun tmps (t, a) => tmps.setIfInBounds t a) a.tmps = a.tmps.setIfInBounds p v := by simp
      rw [ht]
      refine ⟨by simpa using hs.size, ?_, DRepL.nil, hcH0, okc0, Fr.refl _⟩
      have hxv : Rep (E.cut n) x v := Rep.pure (e := E) (e' := E.cut n) rfl rfl x (hpx x (List.mem_of_getElem? hx)) hv
      exact Act.put_rep (a := { tmps := a.tmps, defers := [] }) (fun t => Rep.mono hlec0 _ (hs.slots t)) hxv p hpl
    refine ⟨fn, ((#[p] : Array Tmp).zip #[v]).foldl (fun tmps (t, a) => tmps.setIfInBounds t a) a.tmps, assign, body, ?_, roundIn_of_wpIn (F := FW none) trivial ?_⟩
    · have := run_yield (P := c.P) (args := #[v]) hloop (by rw [hrec]; rfl)
      rw [hrec] at this; exact this
    refine wpIn_mono (ha jl i x (E.cut n) hi hx hcH0 (E.cut n) _ hsim0) ?_
    rintro ex a1 w1 ⟨ax1, s1', e1, ⟨rfl, rfl⟩, rfl, hsim1, hex1⟩
    obtain rfl : ex = .normal := hex1
    obtain ⟨okG, frG, leG⟩ := glue_all ok (n := n) (by rw [hH]; simp [T', hlT, n]) hsim1.ok hsim1.fr (by rw [hsim1.H, hlT])
    have hHG : (E.glue e1 n).H = T' i ++ X := by
      show e1.H ++ E.H.drop n = _
      rw [hsim1.H, hH]; simp only [T', List.append_assoc]; rw [List.drop_left' hlT]
    have hμG : (E.glue e1 n).μ q = some jl := by simp only [Env.glue]; rw [if_neg (by omega)]; exact hμE
    have hwG : (E.glue e1 n).w = e1.w := rfl
    rw [← hwG]
    have hleG := hle.trans frG.le
    have frEG := frG
    generalize E.glue e1 n = EG at okG frG leG hHG hμG hwG hleG frEG ⊢
    have hHE : EG.H[q]? = some (L .ready none) := by
      rw [hHG]; simp only [T', hLi, List.append_assoc]
      rw [List.getElem?_append_right (by omega), hlT, List.getElem?_append_right (by omega)]; simp [n, q]
    obtain ⟨b'3, hb'3, hloop, _⟩ := okG.objs _ _ hHE
    rw [hμG] at hb'3; cases hb'3
    have hbeg := run_beginRound (P := c.P) hloop (by rw [hrec])
    rw [hr1] at hbeg
    refine ⟨_, hbeg, ?_⟩
    obtain ⟨ok2, fr2⟩ := setRaw_all (o := .loop (rec .busy none)) okG hHE hμG rfl rfl
    have hH2 : (EG.setRaw q jl (.loop (rec .busy none))).H = T i ++ (DD ++ ([.raw (.loop (rec .busy none))] ++ X)) := by
      show EG.H.set q _ = _
      rw [hHG]; simp only [T', hLi, List.append_assoc]
      rw [List.set_append_right _ _ (by omega), hlT, List.set_append_right _ _ (by omega)]; simp [n, q]
    have hl2 := hleG.trans fr2.le
    generalize hE2 : EG.setRaw q jl (.loop (rec .busy none)) = E2 at ok2 fr2 hH2 hl2
    have hw2 : E2.w = EG.w.putObj jl (.loop (rec .busy none)) := by rw [← hE2]; rfl
    have hμ2 : E2.μ q = some jl := by rw [← hE2]; exact hμG
    rw [← hw2]
    have hcH : (E2.cut n).H = T i := by rw [cut_H, hH2]; exact List.take_left' hlT
    have okc : EnvOK (E2.cut n) := cut_ok ok2 (by rw [← cut_H, hcH]; exact hin i (by omega))
    have hlec : e.Le (E2.cut n) := le_cut (h2.trans hl2) (by omega)
    have hle1 : e1.Le (E2.cut n) := le_cut (leG.trans fr2.le) (by rw [hsim1.H, hlT]; exact Nat.le_refl _)
    have hsim : Sim ⟨c.P, some jl, c.nt, E2.cut n⟩ ⟨sl1 i x, T i, []⟩ (E2.cut n) a1 :=
      ⟨hsim1.size, fun t => Rep.mono hle1 _ (hsim1.slots t), hsim1.defers.mono hle1, hcH, okc, Fr.refl _⟩
    have hlp : LoopAt (E2.cut n) jl := by
      have hq2 : E2.H[q]? = some (.raw (.loop (rec .busy none))) := by
        rw [hH2, List.getElem?_append_right (by omega), hlT, List.getElem?_append_right (by omega)]; simp [n, q]
      obtain ⟨b4, hb4, hl4, _⟩ := ok2.objs _ _ hq2
      rw [hμ2] at hb4; cases hb4
      refine ⟨⟨_, hl4⟩, fun i hi h => ?_⟩
      rw [hcH, hlT] at hi
      have := ok2.inj i q jl (by rw [hH2]; simp [hlT, n]; omega) (lt_of_get? hq2) h hμ2
      omega
    have hbody := hb jl i x (E2.cut n) hi hx hcH hlp (hs.fr.le.trans hlec) (E2.cut n) _ hsim
    refine wpIn_mono hbody ?_
    rintro ex a3 w3 ⟨ax, s3, e3, ⟨⟨Y, hH3⟩, hdf3, hjx⟩, rfl, hs3, hex⟩
    have hcut : (e3.cut n).H = T (i + 1) := by rw [cut_H, hs3.H, hH3]; exact List.take_left' (hlen (i + 1))
    have ok3 : EnvOK (e3.cut n) := cut_ok hs3.ok (by rw [← cut_H, hcut]; exact hin (i + 1) (by omega))
    have fr3 : Fr (E2.cut n) (e3.cut n) := hs3.fr.cut (by rw [hcH, hlT]; exact Nat.le_refl _)
    obtain ⟨okg, frg, _⟩ := glue_all ok2 (n := n) (by rw [hH2]; simp [hlT, n]) ok3 fr3 (by rw [hcut, hlen])
    have hHg : (E2.glue (e3.cut n) n).H = T (i + 1) ++ (DD ++ ([.raw (.loop (rec .busy none))] ++ X)) := by
      show (e3.cut n).H ++ E2.H.drop n = _
      rw [hcut, hH2, List.drop_left' hlT]
    have hlT1 := hlen (i + 1)
    have hHgl : (E2.glue (e3.cut n) n).H[q]? = some (.raw (.loop (rec .busy none))) := by
      rw [hHg, List.getElem?_append_right (by omega), hlT1, List.getElem?_append_right (by omega)]; simp [n, q]
    have hμg : (E2.glue (e3.cut n) n).μ q = some jl := by simp only [Env.glue]; rw [if_neg (by omega)]; exact hμ2
    obtain ⟨b'', hb'', hloop3, _⟩ := okg.objs _ _ hHgl
    rw [hμg] at hb''; cases hb''
    have fin : ∀ pe : Option Code, jumpEx (if i + 1 = m then jump else none) ax → pe = (if i + 1 = m then jump else none) →
        ∃ v w', (Instr.endRound jl pe).run c.P e3.w = .ok v w' ∧ (Ending.returned v = .returned (.bool (goes m st i)) ∧ ∃ e', e'.w = w' ∧ EnvOK e' ∧ Fr E e' ∧ e'.H = T' (i + 1) ++ X) := by
      intro pe _ hpe
      have hrun := run_endRound (P := c.P) pe (w := e3.w) hloop3
      rw [hr2] at hrun
      obtain ⟨ok4, fr4⟩ := setRaw_all (o := .loop (rec (if pe.isNone then .ready else .done) pe)) okg hHgl hμg rfl rfl
      refine ⟨_, _, hrun, ?_, (E2.glue (e3.cut n) n).setRaw q jl (.loop (rec (if pe.isNone then .ready else .done) pe)), rfl, ok4, (frEG.trans (fr2.trans frg)).trans fr4, ?_⟩
      · congr 2
        simp only [goes]
        by_cases him : i + 1 = m
        · rw [if_pos him] at hpe
          subst hpe
          have : Nat.beq (i + 1) m = true := by rw [him]; exact Nat.beq_refl m
          rw [this]; simp only [st]; cases pe <;> rfl
        · rw [if_neg him] at hpe
          subst hpe
          have : Nat.beq (i + 1) m = false := by cases hb : Nat.beq (i + 1) m with | false => rfl | true => exact absurd (Nat.eq_of_beq_eq_true hb) him
          rw [this]; simp
      · show (E2.glue (e3.cut n) n).H.set q _ = _
        rw [hHg, List.set_append_right _ _ (by omega), hlT1, List.set_append_right _ _ (by omega)]
        simp only [T', List.append_assoc, n, q, Nat.add_sub_cancel_left]
        congr 2
        rw [Nat.sub_self]
        simp only [List.cons_append, List.nil_append, List.set_cons_succ, List.set_cons_zero, List.cons.injEq, true_and, and_true]
        simp only [Lk]
        by_cases him : i + 1 = m
        · rw [if_pos him] at hpe
          subst hpe
          have : Nat.beq (i + 1) m = true := by rw [him]; exact Nat.beq_refl m
          rw [this]; simp only [st, Bool.and_true, L, hrec]; cases pe <;> rfl
        · rw [if_neg him] at hpe
          subst hpe
          have : Nat.beq (i + 1) m = false := by cases hb : Nat.beq (i + 1) m with | false => rfl | true => exact absurd (Nat.eq_of_beq_eq_true hb) him
          rw [this]; simp only [Bool.and_false, L, hrec]; rfl
    cases ax with
    | normal =>
      obtain rfl : ex = .normal := hex
      refine fin none hjx ?_
      split at hjx
      · rename_i h; rw [if_pos h]; cases jump with
        | none => rfl
        | some q => cases q <;> first | cases hjx | exact hjx.elim
      · rename_i h; rw [if_neg h]
    | ret =>
      obtain rfl : ex = .ret := hex
      refine fin (some .ret) hjx ?_
      split at hjx
      · rename_i h; rw [if_pos h]; cases jump with
        | none => cases hjx
        | some q => cases q <;> first | (cases hjx; rfl) | (cases hjx; done) | exact hjx.elim
      · cases hjx
    | exit id =>
      obtain rfl : ex = .exit id := hex
      refine fin (some (.exit id)) hjx ?_
      split at hjx
      · rename_i h; rw [if_pos h]; cases jump with
        | none => cases hjx
        | some q => cases q <;> first | (cases hjx; rfl) | (cases hjx; done) | exact hjx.elim
      · cases hjx
    | goto l =>
      split at hjx
      · cases jump with
        | none => cases hjx
        | some q => cases q <;> first | cases hjx | exact hjx.elim
      · cases hjx
    | panic v =>
      split at hjx
      · cases jump with
        | none => cases hjx
        | some q => cases q <;> first | cases hjx | exact hjx.elim
      · cases hjx
  · -- behind the iterator
    rintro ex w5 ⟨u, e5, rfl, rfl, ok5, fr5, X, hH5⟩
    have hlT := hlen m
    have hle5 := h2.trans fr5.le
    have hH5' : e5.H = T m ++ (DD ++ ([Lk m] ++ X)) := by rw [hH5]; simp [T']
    have hLm : Lk m = L (if jump.isSome then .done else .ready) jump := by
      simp only [Lk, st, Nat.beq_refl, Bool.and_true]
      cases jump <;> rfl
    have hHl : e5.H[q]? = some (L (if jump.isSome then .done else .ready) jump) := by
      rw [hH5', List.getElem?_append_right (by omega), hlT, List.getElem?_append_right (by omega), ← hLm]; simp [n, q]
    have hμ5 : e5.μ q = some jl := (fr5.le.obj q (by rw [hH1]; simp [hT0, n, q]) hTq).2 _ hb2
    obtain ⟨b', hb', hloop, _⟩ := ok5.objs _ _ hHl
    rw [hμ5] at hb'; cases hb'
    obtain ⟨ok6, fr6⟩ := setRaw_all (o := .loop (rec .exhausted jump)) ok5 hHl hμ5 rfl rfl
    have hend := run_endLoop (P := c.P) hloop (by rw [hrec]; cases jump <;> simp)
    rw [hr1] at hend
    have hpend : (rec (if jump.isSome then .done else .ready) jump).pending = jump := by rw [hrec]
    rw [hpend] at hend
    have hH6 : (e5.setRaw q jl (.loop (rec .exhausted jump))).H = T m ++ (DD ++ (.raw (.loop (rec .exhausted jump)) :: X)) := by
      show e5.H.set q _ = _
      rw [hH5', List.set_append_right _ _ (by omega), hlT, List.set_append_right _ _ (by omega)]; simp [n, q]
    have hw6 : (e5.setRaw q jl (.loop (rec .exhausted jump))).w = e5.w.putObj jl (.loop (rec .exhausted jump)) := rfl
    have hle6 := hle5.trans fr6.le
    have fr16 := fr5.trans fr6
    generalize e5.setRaw q jl (.loop (rec .exhausted jump)) = e6 at ok6 fr6 hH6 hw6 hle6 fr16
    have hcH : (e6.cut q).H = T m ++ DD := by
      rw [cut_H, hH6, ← List.append_assoc]
      exact List.take_left' (by simp [hlT, n, q])
    have okc : EnvOK (e6.cut q) := cut_ok ok6 (by
      rw [← cut_H, hcH, objsIn_append, Bool.and_eq_true]
      exact ⟨objsIn_mono (Nat.le_add_right _ _) (hin m (Nat.le_refl _)), hDD _⟩)
    have hlec : e.Le (e6.cut q) := le_cut hle6 (by omega)
    have frc : Fr c.e0 (e6.cut q) := by
      have f6 := frE1.trans fr16
      refine ⟨f6.size, f6.still, f6.heap, fun i b hi => f6.objs i b (by
        have : (e6.cut q).H.length ≤ e6.H.length := by rw [cut_H, List.length_take]; omega
        omega), le_cut f6.le (by have := hs.fr.le.len; omega)⟩
    have hsimc : Sim c ⟨s.sl, T m ++ DD, DM ++ s.df⟩ (e6.cut q) { a with defers := mark ++ a.defers } :=
      ⟨hs.size, fun t => Rep.mono hlec _ (hs.slots t), hdr e6 (fr5.le.trans fr6.le) (T m) _ hlT hH6, hcH, okc, frc⟩
    have hend' : (Instr.endLoop jl).run c.P e5.w = .ok jump e6.w := by rw [hw6]; exact hend
    refine ⟨jump, _, hend', ?_⟩
    cases jump with
    | none => exact ⟨.normal, _, e6.cut q, k .normal rfl, rfl, hsimc, rfl⟩
    | some q =>
      cases q with
      | ret => exact wpIn_ret ⟨.ret, _, e6.cut q, k .ret rfl, rfl, hsimc, rfl⟩
      | exit id => exact wpIn_exit ⟨.exit id, _, e6.cut q, k (.exit id) rfl, rfl, hsimc, rfl⟩
      | _ => cases hjo
theorem aw_rangeFuncQ (ks : List Nat) {g : Operand} {p q id bt st : Nat} {ty ty2 : TypeId} {pos pos2 : String} {af af2 : Array Edge} {d : Option Nat} {body : Code} {f : FuncId} {first caps xs : List AV} {cl : AV → List AV} {n : Nat} {bb : Bool} {z : List AV} (T : Nat → List AObj) (m : Nat) (jump : Option Code)
    (hm : m ≤ xs.length) (hj : jump = none → m = xs.length) (hj' : jump ≠ none → 0 < m) (hjo : jumpOK jump = true) {DD : List AObj} {DM : List ADef} (hen : Enters c s p (.region id [⟨some q, .alloc bt, ty, pos, af, none⟩, ⟨d, .store st (.tmp q) (.tmp p), ty2, pos2, af2, none⟩].toArray false) body DD DM) (hDD : ∀ k, objsIn k DD = true) (hg : Less (s.op g) (.fn (.func f) first caps)) (he : Ent c.P f) (hit : AIter2 c.P f first caps xs)
    (hT0 : T 0 = s.H) (hlen : ∀ i, (T i).length = s.H.length) (hin : ∀ i, i ≤ m → objsIn s.H.length (T i) = true) (hpx : ∀ x ∈ xs, x.pureB = true) (hp : Nat.blt p c.nt = true) (hq : Nat.blt q c.nt = true) (hpq : q ≠ p) (hd : dOK c.nt d = true) (hdn : d = none)
    (hz : zeroOf c.P bt = some z) (hzl : Nat.beq z.length n = true) (ht : tySz c.P st = some (bb, n)) (hcl : ∀ x ∈ xs, x.cells = some (cl x) ∧ (cl x).length = n ∧ AV.inL s.H.length (cl x) = true)
    (hks : ∀ u ∈ ks, u ≠ p ∧ u ≠ q) (hsl : slotsIn s.H.length (keepS s.sl ks) = true)
    (hb : ∀ l i x e0, i < m → xs[i]? = some x → e0.H = T i → LoopAt e0 l → c.e0.Le e0 → AWP ⟨c.P, some l, c.nt, e0⟩ body (fun ax s' => (∃ Y, s'.H = T (i + 1) ++ Y) ∧ s'.df = [] ∧ jumpEx (if i + 1 = m then jump else none) ax) ⟨(q, .iptr (cl x)) :: keepS s.sl ks, T i, []⟩)
    (k : ∀ ax, jumpEx jump ax → Q ax ⟨s.sl, T m ++ DD, DM ++ s.df⟩) :
    AWP c (.rangeFunc g #[p] (.region id [⟨some q, .alloc bt, ty, pos, af, none⟩, ⟨d, .store st (.tmp q) (.tmp p), ty2, pos2, af2, none⟩].toArray false) body) Q s := by
  subst hdn
  refine aw_rangeFuncG T m jump (fun _ x => (q, .iptr (cl x)) :: keepS s.sl ks) hm hj hj' hjo hen hDD hg he hit hT0 hlen hin hpx hp ?_ hb k
  intro l i x e0 hi hx he0
  obtain ⟨hc1, hc2, hc3⟩ := hcl x (List.mem_of_getElem? hx)
  have hzn : z.length = n := Nat.eq_of_beq_eq_true hzl
  have hqp : (q == p) = false := by simpa using hpq
  refine aw_region ?_
  refine sq_alloc (by simpa [dOK] using hq) hz ?_
  refine sq_store (a := x) (j := (T i).length) (off := 0) (n := n) (m := cl x) hd (Less.eq (by simp [St.op, St.put, sget])) (Less.eq (by simp [St.op, St.put, sget, hqp])) hc1 (l := z) (by simp [St.put]) ht (by rw [hc2]; exact Nat.beq_refl n) (by rw [hzn]; simp) ?_
  have hH : (T i ++ [AObj.cells z]).set (T i).length (.cells (z.take 0 ++ cl x ++ z.drop (0 + (cl x).length))) = T i ++ [.cells (cl x)] := by
    rw [List.set_append_right _ _ (Nat.le_refl _), Nat.sub_self, List.set_cons_zero, List.take_zero, Nat.zero_add, hc2, ← hzn, List.drop_length]; simp
  refine sq_nilSub (s' := ⟨(q, .iptr (cl x)) :: keepS s.sl ks, T i, []⟩) ?_ ⟨rfl, rfl⟩
  have h1 := sub_iptrK (c := ⟨c.P, some l, c.nt, e0⟩) (s := ⟨(q, .ptr (T i).length 0) :: (p, x) :: s.sl, T i ++ [.cells (cl x)], []⟩) ks q (j := (T i).length) (l := cl x) (by simp [sget]) (by simp)
  have hk : keepS ((q, AV.ptr (T i).length 0) :: (p, x) :: s.sl) ks = keepS s.sl ks := by
    rw [keepS_skip fun u hu => (hks u hu).2, keepS_skip fun u hu => (hks u hu).1]
  rw [hk] at h1
  have h2 := Sub.cut (c := ⟨c.P, some l, c.nt, e0⟩) (s := ⟨(q, .iptr (cl x)) :: keepS s.sl ks, (T i ++ [AObj.cells (cl x)]).set (T i).length .dead, []⟩) (n := s.H.length) (H' := T i)
    (by simp only; rw [List.set_append_right _ _ (Nat.le_refl _)]; exact List.take_left' (hlen i))
    (by simp only [slotsIn, Bool.and_eq_true, AV.inB]; exact ⟨hc3, hsl⟩) (hin i (by omega)) (by simp [he0])
  have h3 := h1.trans h2
  have h4 : (T i ++ [AObj.cells z]).set (T i).length (.cells (z.take 0 ++ cl x ++ z.drop (0 + (cl x).length))) = T i ++ [.cells (cl x)] := hH
  show Sub _ ⟨(q, .ptr (T i).length 0) :: (p, x) :: s.sl, (T i ++ [AObj.cells z]).set (T i).length (.cells (z.take 0 ++ cl x ++ z.drop (0 + (cl x).length))), []⟩ _
  rw [h4]
  exact h3
theorem aw_norm {code : Code} {H' : List AObj} (hH : s.H = H') (k : AWP c code Q ⟨s.sl, H', s.df⟩) : AWP c code Q s := by subst hH; exact k
theorem dd_in (k : Nat) : objsIn k [AObj.raw (.deferred (some []))] = true := rfl
end range
end Go.Ab
namespace Go.Ab
variable [Tabs]
section seq
variable {c : Ctx} {ops : Array Oper} {Q : AExit → St → Prop} {rest : List Oper} {s : St} {i : Nat}
variable {d : Option Tmp} {t : TypeId} {p : String} {af : Array Edge}
end seq
theorem Sub.at {c : Ctx} {s : St} {sl' : List (Nat × AV)} {H' : List AObj} (h : LessS s.sl sl') (hH : s.H = H') : Sub c s ⟨sl', H', s.df⟩ := by subst hH; exact Sub.slots h
section ev
variable {P : Program} {r : Option Nat} {H : List AObj} {ρ : Operand → AV} {d : Option Tmp} {t : TypeId} {p : String} {af : Array Edge} {g : Option (Nat × Bool)} {x y : Operand}
end ev
section row
variable {c : Ctx} {Q : AExit → St → Prop} {ρ : Operand → AV} {df : List ADef} {t : TypeId} {p : String} {af : Array Edge}
variable {A : List AObj} {α : Type} {f : α → List AV} {sz k : Nat} {R : List α} {rs : List AV}
end row
end Go.Ab
namespace Go.Ab
open Go.Sort
variable [Tabs]
abbrev numL (l : List Int) : List AV := l.map fun x => AV.raw (.int .i64 x)
theorem numL_rep {e : Env} : ∀ (l : List Int), RepL e (numL l) (l.map (Value.int .i64))
  | [] => RepL.nil
  | x :: l => RepL.cons (by rw [Rep]) (numL_rep l)
abbrev numE (l : List Int) : List (List AV) := l.map fun x => [AV.raw (.int .i64 x)]
theorem numE_flat : ∀ l : List Int, (numE l).flatten = numL l
  | [] => rfl
  | x :: l => by show [AV.raw (.int .i64 x)] ++ (numE l).flatten = _; rw [numE_flat l]; rfl
theorem numE_sz {l : List Int} : ∀ c ∈ numE l, c.length = 1 := fun c hc => by obtain ⟨x, _, rfl⟩ := List.mem_map.1 hc; rfl
def keepO : AObj → AObj
  | .raw o => .raw o
  | .tok n => .tok n
  | _ => .dead
def rig : AV → Bool
  | .raw _ => true
  | .ptr _ _ => true
  | .any => true
  | _ => false
def RigS (sl : List (Nat × AV)) : List (Nat × AV) → Prop
  | [] => True
  | (u, a) :: l => (rig a = true ∧ sget sl u = a) ∧ RigS sl l
theorem RigS.get {e e' : Env} {sl : List (Nat × AV)} {t : Nat} {v : Value} (hT : ∀ i, e'.T i = e.T i) (hl : e'.H.length = e.H.length) (hμ : e'.μ = e.μ) (h0 : Rep e (sget sl t) v) : ∀ {sl' : List (Nat × AV)}, RigS sl sl' → Rep e' (sget sl' t) v
  | [], _ => by show Rep e' .any v; rw [Rep]; trivial
  | (u, a) :: l, h => by
    rw [RigS] at h
    simp only [sget]
    cases hb : u == t with
    | false => exact RigS.get hT hl hμ h0 h.2
    | true =>
      have : u = t := by simpa using hb
      subst this
      obtain ⟨⟨h1, h2⟩, _⟩ := h
      rw [h2] at h0
      simp only [cond_true]
      cases a with
      | raw x => rw [Rep] at h0 ⊢; exact h0
      | ptr i off => rw [Rep] at h0 ⊢; rw [hl, hT, hμ]; exact h0
      | any => rw [Rep]; trivial
      | _ => simp [rig] at h1
theorem tok_keep (o : Option AObj) : tokOf (o.map keepO) = tokOf o := by
  cases o with
  | none => rfl
  | some o => cases o <;> rfl
def marksOnly : List ADef → Bool
  | [] => true
  | .mark _ :: l => marksOnly l
  | _ :: _ => false
theorem marks_mono {e e' : Env} (hT : ∀ i, e'.T i = e.T i) (hl : e'.H.length = e.H.length) (hμ : e'.μ = e.μ) : ∀ {df : List ADef} {ds : List Deferred}, marksOnly df = true → DRepL e df ds → DRepL e' df ds
  | [], _, _, h => by rw [DRepL] at h ⊢; exact h
  | .mark i :: l, _, hm, h => by
    rw [DRepL] at h ⊢
    obtain ⟨d, rest, h1, h2, h3⟩ := h
    refine ⟨d, rest, h1, ?_, marks_mono hT hl hμ hm h3⟩
    unfold DRep at h2 ⊢
    simp only at h2 ⊢
    rw [hl, hT, hμ]; exact h2
  | .call _ _ _ :: _, _, hm, _ => by simp [marksOnly] at hm
section
variable {c : Ctx} {ops : Array Oper} {Q : AExit → St → Prop} {rest : List Oper} {s : St} {i : Nat}
variable {d : Option Tmp} {t : TypeId} {p : String} {af : Array Edge}
theorem sub_token_boxb {c : Ctx} {s : St} (b sz : Nat) (et : TypeId) (hb : s.H[b]? = some (.cells [.raw (.slice none 0 0)])) : Sub c s { s with H := s.H.set b (.cells [.ownb s.H.length sz et []]) ++ [.tok 0] } := by
  have h1 : Sub c s { s with H := s.H ++ [.tok 0] } := fun e a hs => by
    obtain ⟨e', k1, _, _, _, _, k2⟩ := sim_tok hs 0; exact ⟨e', k1, k2⟩
  have hl := lt_of_get? hb
  have h2 : Sub c { s with H := s.H ++ [.tok 0] } { s with H := (s.H ++ [AObj.tok 0]).set b (.cells [.ownb s.H.length sz et []]) } :=
    sub_recell (s := { s with H := s.H ++ [AObj.tok 0] }) (l := [.raw (.slice none 0 0)]) (l' := [.ownb s.H.length sz et []]) (by rw [List.getElem?_append_left hl]; exact hb) fun e a hs vs hv => by
      rw [RepL] at hv ⊢
      obtain ⟨v, r, h1, h2, h3⟩ := hv
      refine ⟨v, r, h1, ?_, h3⟩
      rw [Rep] at h2
      subst h2
      rw [Rep]
      have hT : e.T s.H.length = some 0 := by unfold Env.T; rw [hs.H]; simp [tokOf]
      exact ⟨none, 0, 0, rfl, rfl, Nat.le_refl _, fun _ => rfl, by simp, fun ad h => (by cases h), by rw [hs.H]; simp, ⟨0, hT, Nat.le_refl _⟩, fun _ ad h => (by cases h)⟩
  have h3 := h1.trans h2
  rwa [List.set_append_left _ _ hl] at h3
end
end Go.Ab
