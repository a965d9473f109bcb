/-
  A part of the proof: conditions: none beyond each theorem's own.
-/
import Derived.Test.YtmbknoaneglilaaGreatDoorLogicC
import Derived.Laws.RangeAny
import Derived.Laws.BytesArg
import Derived.Laws.Concat
import Derived.Sort.Grow
import Derived.Deep.Draws
import Derived.Lib.SplitLaws
import Derived.Laws.MakeOwn
import Derived.Deep.Slices
import Derived.OpenShut
import Derived.Carry
import Derived.Laws.IdiomStrings
import Derived.Lib.UnsafeStr
import Derived.Lib.Builder
import Derived.Laws.Pointers
import Derived.Below
import Derived.Lib.Join
set_option linter.all false
namespace Go.Ab
variable [Tabs]
theorem lookP {H0 X : List AObj} {m : Nat} {o : AObj} (h : X[m]? = some o) : (H0 ++ X)[H0.length + m]? = some o := by
  rw [List.getElem?_append_right (by omega), Nat.add_sub_cancel_left]; exact h
theorem lookL {H0 X : List AObj} {m : Nat} {o : AObj} (h : H0[m]? = some o) : (H0 ++ X)[m]? = some o := by
  rw [List.getElem?_append_left (lt_of_get? h)]; exact h
theorem setP {H0 X : List AObj} {m : Nat} {o : AObj} : (H0 ++ X).set (H0.length + m) o = H0 ++ X.set m o := by
  rw [List.set_append_right _ _ (by omega), Nat.add_sub_cancel_left]
theorem setL {H0 X : List AObj} {m : Nat} {o : AObj} (h : m < H0.length) : (H0 ++ X).set m o = H0.set m o ++ X := by
  rw [List.set_append_left _ _ h]
section seq
variable {c : Ctx} {ops : Array Oper} {Q : AExit → St → Prop} {rest : List Oper} {i : Nat} {H0 X : List AObj} {sl : List (Nat × AV)} {df : List ADef}
variable {d : Option Tmp} {t : TypeId} {p : String} {af : Array Edge}
theorem sq_allocP {bt : TypeId} {l : List AV} (hd : dOK c.nt d = true) (hz : zeroOf c.P bt = some l)
    (k : SeqWP c ops Q (i + 1) rest (St.put ⟨sl, H0 ++ (X ++ [.cells l]), df⟩ d (.ptr (H0.length + X.length) 0))) : SeqWP c ops Q i (⟨d, .alloc bt, t, p, af, none⟩ :: rest) ⟨sl, H0 ++ X, df⟩ := by
  refine sq_alloc hd hz ?_
  simp only [List.append_assoc, List.length_append]; exact k
theorem sq_storeP {st : TypeId} {x y : Operand} {a : AV} {j off n : Nat} {bb : Bool} {l m : List AV} (hd : dOK c.nt d = true)
    (hx : Less ((⟨sl, H0 ++ X, df⟩ : St).op x) (.ptr (H0.length + j) off)) (hy : Less ((⟨sl, H0 ++ X, df⟩ : St).op y) a) (hm : a.cells = some m) (hj : X[j]? = some (.cells l)) (ht : tySz c.P st = some (bb, n)) (hn : Nat.beq m.length n = true) (hle : Nat.ble (off + n) l.length = true)
    (k : SeqWP c ops Q (i + 1) rest (St.put ⟨sl, H0 ++ X.set j (.cells (l.take off ++ m ++ l.drop (off + m.length))), df⟩ d .any)) : SeqWP c ops Q i (⟨d, .store st x y, t, p, af, none⟩ :: rest) ⟨sl, H0 ++ X, df⟩ := by
  refine sq_store hd hx hy hm (lookP hj) ht hn hle ?_
  simp only [setP]; exact k
theorem sq_storeL {st : TypeId} {x y : Operand} {a : AV} {j off n : Nat} {bb : Bool} {l m : List AV} (hd : dOK c.nt d = true)
    (hx : Less ((⟨sl, H0 ++ X, df⟩ : St).op x) (.ptr j off)) (hy : Less ((⟨sl, H0 ++ X, df⟩ : St).op y) a) (hm : a.cells = some m) (hj : H0[j]? = some (.cells l)) (ht : tySz c.P st = some (bb, n)) (hn : Nat.beq m.length n = true) (hle : Nat.ble (off + n) l.length = true)
    (k : SeqWP c ops Q (i + 1) rest (St.put ⟨sl, H0.set j (.cells (l.take off ++ m ++ l.drop (off + m.length))) ++ X, df⟩ d .any)) : SeqWP c ops Q i (⟨d, .store st x y, t, p, af, none⟩ :: rest) ⟨sl, H0 ++ X, df⟩ := by
  refine sq_store hd hx hy hm (lookL hj) ht hn hle ?_
  simp only [setL (lt_of_get? hj)]; exact k
end seq
section ev
variable {P : Program} {r : Option Nat} {H : List AObj} {ρ : Operand → AV}
variable {d : Option Tmp} {t : TypeId} {p : String} {af : Array Edge} {g : Option (Nat × Bool)} {x y : Operand}
theorem ev_nil_nil {xt yt : TypeId} (hu : P.underlying xt = some (.interface #[])) (hx : Less (ρ x) (.raw .nilIface)) (hy : Less (ρ y) (.raw .nilIface)) :
    Ev P r ⟨d, .binOp .eql xt x y yt, t, p, af, g⟩ H ρ (.raw (.bool true)) :=
  Ev.pure (by intro c h; cases h) fun e ρc ok hE hs => by
    have h1 := rep_raw hx (hs x (by simp [Op.operands]))
    have h3 := rep_raw hy (hs y (by simp [Op.operands]))
    refine ⟨.bool true, ?_, by rw [Rep]⟩
    have he : (Op.equal xt .nilIface .nilIface).run P e.w = .ok true e.w := by
      show (Op.equalIn (9999 + 1) xt .nilIface .nilIface).run P e.w = _
      rw [Op.equalIn]; simp [run_und hu]
    have hg0 : (Op.eqGuardIn Op.maxDepth xt .nilIface .nilIface).run P e.w = .ok false e.w := by
      show (Op.eqGuardIn (9999 + 1) xt .nilIface .nilIface).run P e.w = _
      rw [Op.eqGuardIn]; simp [run_und hu]
    have hg : (eqGuard .eql xt x y .nilIface .nilIface).run P e.w = .ok () e.w := by
      simp only [eqGuard]
      cases x <;> cases y <;> simp [hg0]
    have hb : (binOp .eql xt .nilIface .nilIface).run P e.w = .ok (.bool true) e.w := by
      show (do pure (.bool (← Op.equal xt .nilIface .nilIface)) : Sem Value).run P e.w = _
      simp [he]
    simp only [execOp, h1, h3]
    simp [hg, hb]
end ev
theorem ev_sl_nil_ne {P : Program} {r : Option Nat} {H : List AObj} {ρ : Operand → AV} {d : Option Tmp} {t : TypeId} {p : String} {af : Array Edge} {g : Option (Nat × Bool)} {x y : Operand} {xt yt et : TypeId} {sz : Nat} {es : List (List AV)} (ht : slElem P xt = some (et, sz))
    (hx : Less (ρ x) (.sl sz es)) (hne : 0 < es.length) (hy : Less (ρ y) (.raw (.slice none 0 0))) : Ev P r ⟨d, .binOp .eql xt x y yt, t, p, af, g⟩ H ρ (.raw (.bool false)) :=
  Ev.pure (by intro c h; cases h) fun e ρc ok hE hs => by
    obtain ⟨h1, _⟩ := slElem_und ht
    have hv := hx e _ (hs x (by simp [Op.operands]))
    rw [Rep] at hv
    obtain ⟨a, len, cap, hv, hlen, hle, hnil, _⟩ := hv
    obtain ⟨ad, rfl⟩ : ∃ ad, a = some ad := by
      cases a with
      | none => have := hnil rfl; omega
      | some ad => exact ⟨ad, rfl⟩
    have hw := rep_raw hy (hs y (by simp [Op.operands]))
    refine ⟨.bool false, ?_, by rw [Rep]⟩
    have he : (Op.equal xt (.slice (some ad) len cap) (.slice none 0 0)).run P e.w = .ok false e.w := by
      show (Op.equalIn (9999 + 1) xt _ _).run P e.w = _
      rw [Op.equalIn]; simp [run_und h1]
    have hg : (eqGuard .eql xt x y (.slice (some ad) len cap) (.slice none 0 0)).run P e.w = .ok () e.w := by simp [eqGuard]
    have hb : (binOp .eql xt (.slice (some ad) len cap) (.slice none 0 0)).run P e.w = .ok (.bool false) e.w := by
      show (do pure (.bool (← Op.equal xt (.slice (some ad) len cap) (.slice none 0 0))) : Sem Value).run P e.w = _
      simp [he]
    simp only [execOp, hv, hw]
    simp [hg, hb]
theorem sub_recell {c : Ctx} {s : St} {b : Nat} {l l' : List AV} (hb : s.H[b]? = some (.cells l)) (h : ∀ e a, Sim c s e a → ∀ vs, RepL e l vs → RepL e l' vs) : Sub c s { s with H := s.H.set b (.cells l') } := by
  intro e a hs
  have hbe : e.H[b]? = some (.cells l) := by rw [hs.H]; exact hb
  have hbl := lt_of_get? hbe
  obtain ⟨e', he'⟩ : ∃ e' : Env, e' = { e with H := e.H.set b (.cells l') } := ⟨_, rfl⟩
  have hT : ∀ i, e'.T i = e.T i := fun i => by
    rw [he']; unfold Env.T; simp only
    by_cases hi : b = i
    · subst hi; rw [List.getElem?_set_self hbl, hbe]; rfl
    · rw [List.getElem?_set_ne hi]
  have le : e.Le e' := ⟨by rw [he']; simp, fun i hi ht => ⟨by rw [hT]; exact ht, fun q hq => by rw [he']; exact hq⟩, fun q off ho => by rw [he']; exact ⟨ho, rfl⟩, fun i m ht => ⟨m, by rw [hT]; exact ht, Nat.le_refl _, fun _ => ⟨by rw [he'], fun q cs t _ hh => by rw [he']; exact ⟨rfl, cs, hh, rfl⟩⟩⟩⟩
  refine ⟨e', by rw [he'], hs.size, fun t => Rep.mono le _ (hs.slots t), hs.defers.mono le, by rw [he', hs.H], ⟨by rw [he']; exact hs.ok.fresh, fun i o ho => ?_, fun i j q hi hj => ?_, fun i q hi => ?_, hs.ok.tabs.sub (by rw [he']) fun i q hi h1 => ⟨i, by rw [he'] at hi; simpa using hi, by rw [he'] at h1; exact h1⟩⟩, ⟨by rw [he']; exact hs.fr.size, by rw [he']; exact hs.fr.still, by rw [he']; exact hs.fr.heap, fun i q hi => ?_, hs.fr.le.trans le⟩⟩
  · by_cases hi : b = i
    · subst hi
      rw [he'] at ho; simp only [List.getElem?_set_self hbl, Option.some.injEq] at ho; subst ho
      obtain ⟨q, cs, t, k1, k2, k3, k4, k5⟩ := hs.ok.objs b _ hbe
      exact ⟨q, cs, t, by rw [he']; exact k1, by rw [he']; exact k2, by rw [he']; exact k3, RepL.mono le _ (h e a hs _ k4), k5⟩
    · have ho' : e.H[i]? = some o := by rw [he'] at ho; simpa [List.getElem?_set_ne hi] using ho
      exact ObjSim.mono le (hs.ok.objs i o ho') (by rw [he']) (fun _ _ => by rw [he']; exact ⟨rfl, rfl⟩)
  · rw [he'] at hi hj ⊢; exact hs.ok.inj i j q (by simpa using hi) (by simpa using hj)
  · rw [he'] at hi ⊢; exact hs.ok.live i q (by simpa using hi)
  · rw [he'] at hi ⊢; exact hs.fr.objs i q (by simpa using hi)
theorem sub_token_box {c : Ctx} {s : St} (b sz : Nat) (hb : s.H[b]? = some (.cells [.raw (.slice none 0 0)])) : Sub c s { s with H := s.H.set b (.cells [.own s.H.length sz []]) ++ [.tok 0] } := by
  have h1 : Sub c s { s with H := s.H ++ [.tok 0] } := fun e a hs => by
    obtain ⟨e', k1, _, _, _, _, k2⟩ := sim_tok hs 0; exact ⟨e', k1, k2⟩
  have hl := lt_of_get? hb
  have h2 : Sub c { s with H := s.H ++ [.tok 0] } { s with H := (s.H ++ [AObj.tok 0]).set b (.cells [.own s.H.length sz []]) } :=
    sub_recell (s := { s with H := s.H ++ [AObj.tok 0] }) (l := [.raw (.slice none 0 0)]) (l' := [.own s.H.length sz []]) (by rw [List.getElem?_append_left hl]; exact hb) fun e a hs vs hv => by
      rw [RepL] at hv ⊢
      obtain ⟨v, rest, h1, h2, h3⟩ := hv
      refine ⟨v, rest, h1, ?_, h3⟩
      rw [Rep] at h2
      rw [Rep, h2]
      exact ⟨none, 0, 0, rfl, rfl, Nat.le_refl _, fun _ => rfl, by simp, fun ad h => (by cases h), by rw [hs.H]; simp, ⟨0, by unfold Env.T; rw [hs.H]; simp [tokOf], Nat.le_refl _⟩, fun _ ad h => (by cases h)⟩
  have h3 := h1.trans h2
  rwa [List.set_append_left _ _ hl] at h3
theorem ev_slnil {P : Program} {r : Option Nat} {H : List AObj} {ρ : Operand → AV} {d : Option Tmp} {t : TypeId} {p : String} {af : Array Edge} {g : Option (Nat × Bool)} {x y : Operand} {xt yt et : TypeId} {sz : Nat} (ht : slElem P xt = some (et, sz))
    (hx : Less (ρ x) (.raw (.slice none 0 0))) (hy : Less (ρ y) (.raw (.slice none 0 0))) : Ev P r ⟨d, .binOp .eql xt x y yt, t, p, af, g⟩ H ρ (.raw (.bool true)) :=
  Ev.pure (by intro c h; cases h) fun e ρc ok hE hs => by
    obtain ⟨h1, _⟩ := slElem_und ht
    have hv := rep_raw hx (hs x (by simp [Op.operands]))
    have hw := rep_raw hy (hs y (by simp [Op.operands]))
    refine ⟨.bool true, ?_, by rw [Rep]⟩
    have he : (Op.equal xt (.slice none 0 0) (.slice none 0 0)).run P e.w = .ok true e.w := by
      show (Op.equalIn (9999 + 1) xt _ _).run P e.w = _
      rw [Op.equalIn]; simp [run_und h1]
    have hg : (eqGuard .eql xt x y (.slice none 0 0) (.slice none 0 0)).run P e.w = .ok () e.w := by simp [eqGuard]
    have hb : (binOp .eql xt (.slice none 0 0) (.slice none 0 0)).run P e.w = .ok (.bool true) e.w := by
      show (do pure (.bool (← Op.equal xt (.slice none 0 0) (.slice none 0 0))) : Sem Value).run P e.w = _
      simp [he]
    simp only [execOp, hv, hw]
    simp [hg, hb]
theorem nil_pre (H : List AObj) : H = H ++ [] := (List.append_nil H).symm
section seqg
variable {c : Ctx} {ops : Array Oper} {Q : AExit → St → Prop} {rest : List Oper} {s : St} {i : Nat}
variable {d : Option Tmp} {op : Op} {t : TypeId} {p : String} {af : Array Edge}
end seqg
theorem AQuiet.lend {P : Program} {f : FuncId} {args args' : List AV} {res : AV} {j n c sz : Nat} {es : List (List AV)} {rest : List AV} {H : List AObj}
    (hc : APure P f args res) (hr : res.flat = true) (hlend : FzL j n c sz es args' args)
    (hj : H[j]? = some (.cells (es.flatten ++ rest))) (hn : es.length = n) (hsz : ∀ q ∈ es, q.length = sz) : AQuiet P f args' H res := by
  intro e vs ok hH hargs
  have hlen := hargs.length
  have hje := pre_get hH hj
  have hjl := lt_of_get? hje
  have hsim : Sim ⟨P, none, vs.size, e⟩ ⟨slotsOf 0 args', e.H, []⟩ e { tmps := vs, defers := [] } := by
    refine ⟨rfl, fun t => ?_, DRepL.nil, rfl, ok, Fr.refl e⟩
    rw [get_slotsOf]
    simp only [Nat.zero_le, if_true, Nat.sub_zero]
    cases hat : args'[t]? with
    | none => simp only [Option.getD_none]; rw [Rep]; trivial
    | some q =>
      obtain ⟨u, k1, k2⟩ := hargs.get t q hat
      have : vs.getD t undef = u := by
        rw [Array.getD_eq_getD_getElem?]
        have : vs[t]? = some u := by simpa using k1
        rw [this]; rfl
      rw [this]; exact k2
  have hal : ∀ {l' l : List AV}, FzL j n c sz es l' l → l'.length = l.length := by
    intro l' l h; induction h with
    | nil => rfl
    | cons _ _ ih => simp [ih]
  obtain ⟨e1, hw1, hs1⟩ := sub_freeze (c := ⟨P, none, vs.size, e⟩) (s := ⟨slotsOf 0 args', e.H, []⟩) (j := j) (n := n) (cap := c) (sz := sz) (es := es) (rest := rest) (sl' := slotsOf 0 args) (H' := e.H.set j .dead) hje hn hsz (slotsOf_fz 0 hlend)
    (by
      have rst : ∀ (H : List AObj) (m : Nat), j < m → FzH j n c sz es m H H := by
        intro H
        induction H with
        | nil => exact fun m _ => FzH.nil m
        | cons o H ih => exact fun m hm => FzH.same o (by omega) (ih (m + 1) (by omega))
      have key : ∀ (H : List AObj) (m q : Nat), j = m + q → FzH j n c sz es m H (H.set q .dead) := by
        intro H
        induction H with
        | nil => exact fun m q _ => FzH.nil m
        | cons o H ih =>
          intro m q hq
          cases q with
          | zero => exact FzH.dead o (by omega) (rst H (m + 1) (by omega))
          | succ q => exact FzH.same o (by omega) (ih (m + 1) q (by omega))
      exact key e.H 0 j (by omega)) e { tmps := vs, defers := [] } hsim
  have hargs1 : RepL e1 args vs.toList := by
    have hl2 := hal hlend
    have key : ∀ (l : List AV) (k : Nat) (us : List Value), us.length = l.length → (∀ t, t < l.length → Rep e1 (sget (slotsOf k l) (k + t)) (us.getD t undef)) → RepL e1 l us := by
      intro l
      induction l with
      | nil => intro k us h _; rw [RepL]; exact List.length_eq_zero_iff.1 h
      | cons q l ih =>
        intro k us h hh
        cases us with
        | nil => simp at h
        | cons u us =>
          refine RepL.cons ?_ (ih (k + 1) us (by simpa using h) fun t ht => ?_)
          · have := hh 0 (by simp)
            simpa [slotsOf, sget] using this
          · have := hh (t + 1) (by simpa using ht)
            simp only [slotsOf, sget] at this
            have hne : (k == k + (t + 1)) = false := by simp
            rw [hne] at this
            rw [show k + 1 + t = k + (t + 1) by omega]
            simpa using this
    refine key args 0 vs.toList (by simpa using hlen.trans hl2) fun t ht => ?_
    have := hs1.slots t
    rw [Nat.zero_add]
    have e2 : vs.toList.getD t undef = vs.getD t undef := by rw [List.getD_eq_getElem?_getD, Array.getD_eq_getD_getElem?, Array.getElem?_toList]
    rw [e2]; exact this
  have := hc e1 vs hs1.ok hargs1
  rw [hw1] at this
  refine CallsIn.mono (F := FW none) (n := 0) this ?_
  rintro x w' ⟨u, e2, rfl, rfl, hxt, hu⟩
  have hsz2 : e.w.heap.size ≤ e2.w.heap.size := by have := hxt.size; rw [hw1] at this; exact this
  refine ⟨u, { H := e.H, μ := e.μ, G := fun b => if b < e.w.heap.size then e.G b else e2.G b, w := e2.w }, rfl, rfl, ⟨rfl, fun _ _ => rfl, hsz2, hw1 ▸ hxt.still, fun b hb => ?_, fun b hb => by simp [hb], fun b hb => ?_⟩, rep_flat hr hu⟩
  · have := hxt.heap b (by rw [hw1]; exact hb)
    rw [hw1] at this; exact this
  · have : ¬ b < e.w.heap.size := by simp only at hb; omega
    simp only [this, if_false]; exact hxt.fresh b hb
theorem AQuiet.of_pure {P : Program} {f : FuncId} {args : List AV} {res : AV} (h : APure P f args res) (H : List AObj) : AQuiet P f args H res := fun e vs ok _ hs => h e vs ok hs
theorem AQuiet.less {P : Program} {f : FuncId} {args args' : List AV} {H : List AObj} {res : AV} (h : AQuiet P f args H res) (ha : LessL args' args) : AQuiet P f args' H res := fun e vs ok hH hs => h e vs ok hH (ha.rep hs)
def ARes.inB (n : Nat) : ARes → Bool
  | .ret v => v.inB n
  | .pan v => v.inB n
theorem ACall.drop {P : Program} {f : FuncId} {args : List AV} {H H1 : List AObj} {R : ARes → Prop} (h : ACall P f args H fun x H' => (∃ X, H' = H1 ++ X) ∧ R x) (hn : H.length ≤ H1.length) (hin : objsIn H1.length H1 = true)
    (hR : ∀ x, R x → x.inB H1.length = true) : ACall P f args H fun x H' => H' = H1 ∧ R x := by
  intro e vs ok hH hs
  refine (h e vs ok hH hs).mono ?_
  rintro x w' ⟨ax, e', rfl, ok', fr, ⟨⟨X, hX⟩, hRx⟩, hend⟩
  have hcH : (e'.cut H1.length).H = H1 := by rw [cut_H, hX, List.take_left' rfl]
  refine ⟨ax, e'.cut H1.length, rfl, cut_ok ok' (by rw [← cut_H, hcH]; exact hin), fr.cut (by rw [hH]; exact hn), ⟨hcH, hRx⟩, ?_⟩
  cases ax with
  | ret v => obtain ⟨u, rfl, hu⟩ := hend; exact ⟨u, rfl, Rep.cut v (hR _ hRx) hu⟩
  | pan v => obtain ⟨u, rfl, hu⟩ := hend; exact ⟨u, rfl, Rep.cut v (hR _ hRx) hu⟩
theorem ACall.mono {P : Program} {f : FuncId} {args : List AV} {H : List AObj} {R R' : ARes → List AObj → Prop} (h : ACall P f args H R) (k : ∀ x H', R x H' → R' x H') : ACall P f args H R' :=
  fun e vs ok hH hs => (h e vs ok hH hs).mono fun _ _ ⟨ax, e', h1, h2, h3, h5, h6⟩ => ⟨ax, e', h1, h2, h3, k _ _ h5, h6⟩
end Go.Ab
namespace Go.Ab
variable [Tabs]
section
variable {P : Program} {b : Frame} {a : Act} {k : List Item} {cs : List Frame} {w : World}
theorem stepR_scope {c : Code} : step P (lone (b.atR a (.code (.scope c) :: k)) cs w) = .next (lone (b.atR a (.code c :: .inScope c :: k)) cs w) :=
  step_lone_go (by simp [stepG, stepG.exec, Frame.atR])
theorem stepR_inScope {c : Code} : step P (lone (b.atR a (.inScope c :: k)) cs w) = .next (lone (b.atR a k) cs w) :=
  step_lone_go (by simp [stepG, stepG.exec, Frame.atR])
theorem wpIn_scope {F : Fence} {n : Nat} {Q : Exit → Act → World → Prop} {c : Code} (h : c.wpIn F n P (fun x a w => (∀ l, x ≠ .goto l) ∧ Q x a w) a w) : (Code.scope c).wpIn F n P Q a w := by
  intro b k cs hro hb hr
  have h0 : (lone (b.atR a (.code (.scope c) :: k)) cs w).fenced P F := fenced_calm hb hr rfl
  obtain ⟨e, a₁, w₁, ⟨hg, hq⟩, harr⟩ := h b (.inScope c :: k) cs hro hb hr
  cases e with
  | normal => exact ⟨.normal, a₁, w₁, hq, .head h0 stepR_scope (StepsIn.trans harr (.one (fenced_calm hb hr rfl) stepR_inScope))⟩
  | exit id =>
    have hx : exitTo id (.inScope c :: k) = exitTo id k := by simp [exitTo]
    exact ⟨_, a₁, w₁, hq, fun k' hk => .head h0 stepR_scope (harr.1 k' (by rw [hx]; exact hk)),
      fun hr' hk => let ⟨k₁, h1, h2⟩ := harr.2 hr' (by rw [hx]; exact hk); ⟨k₁, h1, .head h0 stepR_scope h2⟩⟩
  | goto l => exact absurd rfl (hg l)
  | ret => exact ⟨_, a₁, w₁, hq, .of_steps (.one h0 stepR_scope) harr⟩
  | panic ch => exact ⟨_, a₁, w₁, hq, .of_steps (.one h0 stepR_scope) harr⟩
  | outgrown => exact ⟨_, a₁, w₁, hq, .of_steps (.one h0 stepR_scope) harr⟩
end
def AExit.noGoto (Q : AExit → St → Prop) : AExit → St → Prop
  | .goto _, _ => False
  | x, s => Q x s
section
variable {c : Ctx} {Q : AExit → St → Prop} {s : St}
theorem aw_scope {x : Code} (h : AWP c x (AExit.noGoto Q) s) : AWP c (.scope x) Q s := by
  intro e a hs
  refine wpIn_scope (wpIn_mono (h e a hs) ?_)
  rintro ex a' w ⟨ax, s', e', hq, rfl, hs', hx⟩
  cases ax with
  | normal => obtain rfl : ex = .normal := hx; exact ⟨fun l h => (by cases h), .normal, s', e', hq, rfl, hs', rfl⟩
  | exit j => obtain rfl : ex = .exit j := hx; exact ⟨fun l h => (by cases h), .exit j, s', e', hq, rfl, hs', rfl⟩
  | goto l => exact hq.elim
  | ret => obtain rfl : ex = .ret := hx; exact ⟨fun l h => (by cases h), .ret, s', e', hq, rfl, hs', rfl⟩
  | panic v => obtain ⟨u, rfl, hu⟩ := hx; exact ⟨fun l h => (by cases h), .panic v, s', e', hq, rfl, hs', u, rfl, hu⟩
/-- **A box that is written no more**, held in one slot. -/
theorem sub_iptrK (ks : List Nat) (t : Nat) {j : Nat} {l : List AV} (ht : sget s.sl t = .ptr j 0) (hj : s.H[j]? = some (.cells l)) : Sub c s ⟨(t, .iptr l) :: keepS s.sl ks, s.H.set j .dead, s.df⟩ := by
  refine sub_iptr hj rfl fun q hq e e' le key v hv => ?_
  rcases List.mem_cons.1 hq with rfl | hq
  · rw [ht] at hv; exact key v hv
  · unfold keepS at hq
    obtain ⟨u, _, rfl⟩ := List.mem_map.1 hq
    exact Rep.mono le _ hv
end
section
variable {P : Program} {r : Option Nat} {H : List AObj} {ρ : Operand → AV}
variable {d : Option Tmp} {t : TypeId} {p : String} {af : Array Edge} {g : Option (Nat × Bool)} {x y : Operand}
end
end Go.Ab
namespace Go.Ab
variable [Tabs]
def Env.pushT (e : Env) (o : Option Nat) : Env := { H := e.H ++ [.tok 0], μ := fun i => if i = e.H.length then o else e.μ i, G := e.G, w := e.w }
theorem pushT_T {e : Env} {o : Option Nat} {i : Nat} (hi : i < e.H.length) : (e.pushT o).T i = e.T i := by simp [Env.T, Env.pushT, List.getElem?_append_left hi]
theorem pushT_le (e : Env) (o : Option Nat) : e.Le (e.pushT o) := by
  refine ⟨by simp [Env.pushT], fun i hi ht => ⟨by rw [pushT_T hi]; exact ht, fun _ hb => by simpa [Env.pushT, Nat.ne_of_lt hi] using hb⟩, fun b off ho => ⟨ho, rfl⟩, fun i n ht => ?_⟩
  have hi := T_lt ht
  exact ⟨n, by rw [pushT_T hi]; exact ht, Nat.le_refl _, fun _ => ⟨by simp [Env.pushT, Nat.ne_of_lt hi], fun b cs t _ hh => ⟨rfl, cs, hh, rfl⟩⟩⟩
theorem pushT_ok {e : Env} (ok : EnvOK e) {o : Option Nat} (ho : ∀ b, o = some b → b < e.w.heap.size ∧ ∀ i, i < e.H.length → e.μ i ≠ some b) (ht : ∀ b, o = some b → Tabs.blk b → False) : EnvOK (e.pushT o) := by
  refine ⟨ok.fresh, fun i x hx => ?_, fun i j b hi hj h1 h2 => ?_, fun i b hi h1 => ?_, ⟨ok.tabs.1, fun b hb => ⟨(ok.tabs.2 b hb).1, fun i hi h1 => ?_⟩⟩⟩
  · rcases Nat.lt_or_ge i e.H.length with h | h
    · have hx' : e.H[i]? = some x := by simpa [Env.pushT, List.getElem?_append_left h] using hx
      exact ObjSim.mono (pushT_le e o) (ok.objs i x hx') (by simp [Env.pushT, Nat.ne_of_lt h]) (fun _ _ => ⟨rfl, rfl⟩)
    · have hi : i = e.H.length := by have := lt_of_get? hx; simp [Env.pushT] at this; omega
      subst hi
      have : x = .tok 0 := by simpa [Env.pushT] using hx.symm
      subst this; trivial
  · have hi' : i < e.H.length + 1 := by simpa [Env.pushT] using hi
    have hj' : j < e.H.length + 1 := by simpa [Env.pushT] using hj
    simp only [Env.pushT] at h1 h2
    by_cases e1 : i = e.H.length <;> by_cases e2 : j = e.H.length
    · omega
    · rw [if_pos e1] at h1; rw [if_neg e2] at h2
      exact absurd h2 ((ho b h1).2 j (by omega))
    · rw [if_neg e1] at h1; rw [if_pos e2] at h2
      exact absurd h1 ((ho b h2).2 i (by omega))
    · rw [if_neg e1] at h1; rw [if_neg e2] at h2; exact ok.inj i j b (by omega) (by omega) h1 h2
  · have hi' : i < e.H.length + 1 := by simpa [Env.pushT] using hi
    simp only [Env.pushT] at h1
    by_cases e1 : i = e.H.length
    · rw [if_pos e1] at h1; exact (ho b h1).1
    · rw [if_neg e1] at h1; exact ok.live i b (by omega) h1
  · have hi' : i < e.H.length + 1 := by simpa [Env.pushT] using hi
    simp only [Env.pushT] at h1
    by_cases e1 : i = e.H.length
    · rw [if_pos e1] at h1; exact ht b h1 hb
    · rw [if_neg e1] at h1; exact (ok.tabs.2 b hb).2 i (by omega) h1
/-- **A slice with room and without elements, out of a call, is the caller's own.** -/
theorem ACall.fresh {P : Program} {f : FuncId} {args : List AV} {H : List AObj} {sz : Nat}
    (h : ACall P f args H fun x H' => (H' = H ∧ x = .ret (.raw (.slice none 0 0))) ∨ ∃ (cap : Nat) (l : List AV), H' = H ++ [.cells l] ∧ l.length = cap * sz ∧ x = .ret (.msl H.length 0 0 cap))
    (hin : objsIn H.length H = true) : ACall P f args H fun x H' => H' = H ++ [.tok 0] ∧ x = .ret (.own H.length sz []) := by
  intro e vs ok hH hs
  refine (h e vs ok hH hs).mono ?_
  rintro x w' ⟨ax, e', rfl, ok', fr, hR, hend⟩
  rcases hR with ⟨hH', rfl⟩ | ⟨cap, l, hH', hl, rfl⟩
  · obtain ⟨u, rfl, hu⟩ := hend
    refine ⟨.ret (.own H.length sz []), e'.pushT none, rfl, pushT_ok ok' (fun b h => by cases h) (fun b h => by cases h), ⟨fr.size, fr.still, fr.heap, fun i b hi h1 => ?_, fr.le.trans (pushT_le _ _)⟩, ⟨by simp [Env.pushT, hH'], rfl⟩, u, rfl, ?_⟩
    · have hi' : i < e'.H.length + 1 := by simpa [Env.pushT] using hi
      simp only [Env.pushT] at h1
      by_cases e1 : i = e'.H.length
      · rw [if_pos e1] at h1; cases h1
      · rw [if_neg e1] at h1; exact fr.objs i b (by omega) h1
    · rw [Rep] at hu; subst hu
      rw [Rep]
      exact ⟨none, 0, 0, rfl, rfl, Nat.le_refl _, fun _ => rfl, by simp, fun ad h => (by cases h), by simp [Env.pushT, hH'], ⟨0, by simp [Env.T, Env.pushT, tokOf, hH'], Nat.le_refl _⟩, fun _ ad h => (by cases h)⟩
  · obtain ⟨u, rfl, hu⟩ := hend
    have hje : e'.H[H.length]? = some (.cells l) := by rw [hH']; simp
    obtain ⟨b, cs, ct, m1, m2, m3, m4, m5⟩ := ok'.objs _ _ hje
    have hcH : (e'.cut H.length).H = H := by rw [cut_H, hH', List.take_left' rfl]
    have okc : EnvOK (e'.cut H.length) := cut_ok ok' (by rw [← cut_H, hcH]; exact hin)
    have frc := fr.cut (n := H.length) (by rw [hH]; exact Nat.le_refl _)
    have hlen : e'.H.length = H.length + 1 := by rw [hH']; simp
    refine ⟨.ret (.own H.length sz []), (e'.cut H.length).pushT (some b), rfl, pushT_ok okc (fun b' hb' => ?_) (fun b' hb' hk => by cases hb'; exact (ok'.tabs.2 b hk).2 H.length (by omega) m1), ⟨fr.size, fr.still, fr.heap, fun i b' hi h1 => ?_, frc.le.trans (pushT_le _ _)⟩, ⟨by simp [Env.pushT, hcH], rfl⟩, u, rfl, ?_⟩
    · cases hb'
      refine ⟨lt_of_heap m3, fun i hi hb => ?_⟩
      rw [hcH] at hi
      have := ok'.inj i H.length b (by omega) (by omega) hb m1
      omega
    · have hi' : i < H.length + 1 := by simpa [Env.pushT, hcH] using hi
      simp only [Env.pushT] at h1
      rw [hcH] at h1
      by_cases e1 : i = H.length
      · rw [if_pos e1] at h1; cases h1; exact fr.objs H.length b (by omega) m1
      · rw [if_neg e1] at h1; exact fr.objs i b' (by omega) h1
    · rw [Rep] at hu
      obtain ⟨_, _, b', hb', rfl, hle⟩ := hu
      rw [m1] at hb'; cases hb'
      rw [Rep]
      refine ⟨some ⟨b, 0, none⟩, 0, cap, rfl, rfl, hle, fun h => (by cases h), by simp, fun ad h => (by cases h; exact ⟨fun _ => rfl, by rw [ElemsAt]; trivial⟩), by simp [Env.pushT, hcH], ⟨0, by simp [Env.T, Env.pushT, tokOf, hcH], Nat.le_refl _⟩, fun _ ad h hlt => ?_⟩
      cases h
      refine ⟨by simp [Env.pushT, hcH], by simpa [Env.pushT, Env.cut] using m2, cs, ct, m3, ?_⟩
      have := m4.length
      rw [Array.length_toList] at this
      simp only [Nat.zero_add]
      omega
section
variable {P : Program}
end
section seq
variable {c : Ctx} {ops : Array Oper} {Q : AExit → St → Prop} {rest : List Oper} {s : St} {i : Nat}
variable {d : Option Tmp} {t : TypeId} {p : String} {af : Array Edge}
end seq
section
variable {P : Program} {r : Option Nat} {H : List AObj} {ρ : Operand → AV}
variable {d : Option Tmp} {t : TypeId} {p : String} {af : Array Edge} {g : Option (Nat × Bool)} {x y : Operand}
end
end Go.Ab
namespace Go.Ab
variable [Tabs]
abbrev S (l : List UInt8) : AV := .raw (.string ⟨l.toArray⟩)
theorem bs_app (a b : List UInt8) : (⟨a.toArray⟩ : ByteArray) ++ ⟨b.toArray⟩ = ⟨(a ++ b).toArray⟩ := by
  exact ByteArray.mk_append_mk a b
theorem flat_single {α : Type} (f : α → AV) (l : List α) : (l.map fun n => [f n]).flatten = l.map f := by
  induction l with
  | nil => rfl
  | cons u us ih => simp [ih]
theorem bs_eq (a b : List UInt8) : decide ((⟨a.toArray⟩ : ByteArray) = ⟨b.toArray⟩) = decide (a = b) := by
  refine decide_eq_decide.2 ⟨fun h => ?_, fun h => by rw [h]⟩
  have := congrArg (fun s : ByteArray => s.data.toList) h
  simpa using this
theorem bs_size (a : List UInt8) : (⟨a.toArray⟩ : ByteArray).size = a.length := by simp [ByteArray.size]
/-- **A contract with new blocks behind the heap, at the most.** -/
theorem apure_of_calls {P : Program} {f : FuncId} {vs : List Value} {u : Value} (h : ∀ w, Tabs.is w → Calls P f vs.toArray w fun x w' => x = .returned u ∧ Still w w' ∧ ∃ os, w'.heap = w.heap ++ os) : APure P f (vs.map .raw) (.raw u) := by
  intro e us ok hs
  have hu : us = vs.toArray := Array.ext' (by simpa using repL_raws_eq hs)
  subst hu
  have h1 := (callsIn_wide (n := 0)).2 (h e.w ok.tabs.1)
  refine CallsIn.mono (F := FW none) (n := 0) h1 ?_
  rintro x w' ⟨rfl, hst, os, hw⟩
  refine ⟨u, { e with w := w' }, rfl, rfl, ⟨rfl, fun _ _ => rfl, by simp [hw], hst, fun b hb => ?_, fun _ _ => rfl, fun b hb => ok.fresh b ?_⟩, by rw [Rep]⟩
  · show w'.heap[b]? = _
    rw [hw, Array.getElem?_append_left hb]
  · have : w'.heap.size ≤ b := hb
    rw [hw, Array.size_append] at this; omega
/-- **A contract with one new row.** -/
theorem apure_of_row {P : Program} {f : FuncId} {vs us : List Value} {et : TypeId} (h1 : ∀ u ∈ us, isCell u = true)
    (h : ∀ w, Tabs.is w → Calls P f vs.toArray w fun x w' => x = .returned (.slice (some ⟨w.heap.size, 0, none⟩) us.length us.length) ∧ Still w w' ∧ w'.heap = w.heap.push (.cells us.toArray et (0, 0))) :
    APure P f (vs.map .raw) (.sl 1 (us.map fun u => [.raw u])) := by
  intro e qs ok hs
  have hu : qs = vs.toArray := Array.ext' (by simpa using repL_raws_eq hs)
  subst hu
  have hc := (callsIn_wide (n := 0)).2 (h e.w ok.tabs.1)
  refine CallsIn.mono (F := FW none) (n := 0) hc ?_
  rintro x w' ⟨rfl, hst, hw⟩
  have hcells := cells_row ok hw hst (RepL.raws us) h1 (fun j v hj => by simpa using hj)
  refine ⟨_, e.row us.length w', rfl, rfl, Env.row_ext ok hw hst, ?_⟩
  rw [Rep]
  refine ⟨_, _, _, rfl, by simp, Nat.le_refl _, fun h => (by cases h), fun c hc => by obtain ⟨u, _, rfl⟩ := List.mem_map.1 hc; rfl, fun ad had => ?_⟩
  cases had
  refine ⟨fun _ => rfl, ElemsAt.flat.2 ?_⟩
  rw [flat_single]; exact hcells
section ops
variable {P : Program} {r : Option Nat} {H : List AObj} {ρ : Operand → AV}
variable {d : Option Tmp} {t : TypeId} {p : String} {af : Array Edge} {g : Option (Nat × Bool)}
variable {x y z : Operand}
theorem ev_catS {a b : List UInt8} {xt yt : TypeId} (hx : Less (ρ x) (S a)) (hy : Less (ρ y) (S b)) (hl : a.length + b.length ≤ 9223372036854775807) :
    Ev P r ⟨d, .binOp .add xt x y yt, t, p, af, g⟩ H ρ (S (a ++ b)) := by
  have := ev_concat (P := P) (r := r) (H := H) (d := d) (t := t) (p := p) (af := af) (g := g) (xt := xt) (yt := yt) hx hy (by rw [bs_size, bs_size]; exact hl)
  rw [bs_app] at this; exact this
theorem ev_seqS {a b : List UInt8} {xt yt : TypeId} (hx : Less (ρ x) (S a)) (hy : Less (ρ y) (S b)) : Ev P r ⟨d, .binOp .eql xt x y yt, t, p, af, g⟩ H ρ (.raw (.bool (decide (a = b)))) := by
  rw [← bs_eq]; exact ev_seql hx hy
theorem ev_sneS {a b : List UInt8} {xt yt : TypeId} (hx : Less (ρ x) (S a)) (hy : Less (ρ y) (S b)) : Ev P r ⟨d, .binOp .neq xt x y yt, t, p, af, g⟩ H ρ (.raw (.bool (decide (a ≠ b)))) := by
  have h := ev_sneq (P := P) (r := r) (H := H) (d := d) (t := t) (p := p) (af := af) (g := g) (xt := xt) (yt := yt) hx hy
  have e1 : decide ((⟨a.toArray⟩ : ByteArray) ≠ ⟨b.toArray⟩) = decide (a ≠ b) := by
    have := bs_eq a b
    have h2 := decide_eq_decide.1 this
    exact decide_eq_decide.2 (not_congr h2)
  rw [e1] at h; exact h
theorem ev_lenS {a : List UInt8} {xt : TypeId} (ht : P.underlying xt = some .string) (hx : Less (ρ x) (S a)) : Ev P r ⟨d, .call ⟨.builtin .len, #[x], #[xt]⟩, t, p, af, g⟩ H ρ (.raw (.int .i64 a.length)) := by
  rw [← bs_size]; exact ev_len_str ht hx
theorem ev_idxS {xt : TypeId} {s : List UInt8} {k : Nat} {ik : IntKind} {m : Int} (ht : P.underlying xt = some .string) (hx : Less (ρ x) (S s)) (hy : Less (ρ y) (.raw (.int ik m))) (hm : m = (k : Int)) (hk : k < s.length) :
    Ev P r ⟨d, .index xt x y, t, p, af, g⟩ H ρ (.raw (.int .u8 (s[k].toNat : Int))) := by
  have := ev_index_str (P := P) (r := r) (H := H) (d := d) (t := t) (p := p) (af := af) (g := g) ht hx hy hm (by rw [bs_size]; exact hk)
  exact this
theorem ev_bytesS {src dst et : TypeId} {ns : List Int} (hs1 : P.underlying src = some (.slice et)) (he : P.underlying et = some (.int .u8)) (hd1 : P.underlying dst = some .string) (hx : Less (ρ x) (.sl 1 (ns.map fun n => [.raw (.int .u8 n)]))) :
    Ev P r ⟨d, .convert src dst x, t, p, af, g⟩ H ρ (S (ns.map fun n => UInt8.ofNat n.toNat)) :=
  Ev.pure (by intro c h; cases h) fun e ρc ok hE hs => by
    have := hx e _ (hs x (by simp [Op.operands]))
    rw [Rep] at this
    obtain ⟨a, len, cap, hv, hlen, hle, hnil, hsz, hc⟩ := this
    refine ⟨.string ⟨(ns.map fun n => UInt8.ofNat n.toNat).toArray⟩, ?_, by rw [Rep]⟩
    have hstr : strOfNums ns = ⟨(ns.map fun n => UInt8.ofNat n.toNat).toArray⟩ := rfl
    cases a with
    | none =>
      have hc0 := hnil rfl
      have : ns = [] := List.length_eq_zero_iff.1 (by rw [List.length_map] at hlen; omega)
      subst this
      simp only [execOp, hv, Sem.run_bind, run_convert_bytes_nil e.w src et hs1 he len cap dst hd1]
      rfl
    | some ad =>
      obtain ⟨hsp, hel⟩ := hc ad rfl
      obtain ⟨b, off, sp⟩ := ad
      by_cases hes : ns = []
      · subst hes
        simp only [List.map_nil, List.length_nil] at hlen
        subst hlen
        simp only [execOp, hv, Sem.run_bind, run_convert_bytes_string e.w src dst et _ 0 cap hs1 he hd1]
        simp [Conv.bytesToString, loadCells, loadCellsFrom]
        try rfl
      have hsp := hsp (by have := List.length_pos_iff.2 hes; rw [List.length_map] at hlen; omega)
      simp only at hsp hel; subst hsp
      have hfl := flat_single (fun n => AV.raw (Value.int .u8 n)) ns
      have hcells := ElemsAt.flat.1 hel
      rw [hfl] at hcells
      have := run_convert_bytes_arg (P := P) e.w src et hs1 he b off len cap ns (by rw [hlen, List.length_map]) (fun i hi => by
        have hin : i < ns.length := by rw [hlen, List.length_map] at hi; exact hi
        obtain ⟨_, v, h2, h3, _⟩ := CellsAt.get i (.raw (.int .u8 ns[i])) hcells (by simp [List.getElem?_eq_getElem hin])
        rw [Rep] at h3; subst h3
        rw [h2, List.getD_eq_getElem?_getD, List.getElem?_eq_getElem hin]; rfl) dst hd1
      rw [hstr] at this
      simp only [execOp, hv, Sem.run_bind, this]
      rfl
end ops
section seq
variable {c : Ctx} {ops : Array Oper} {Q : AExit → St → Prop} {rest : List Oper} {s : St} {i : Nat}
variable {d : Option Tmp} {t : TypeId} {p : String} {af : Array Edge}
theorem sq_rangeS {x : Operand} {xt : TypeId} {b : ByteArray} (hd : dOK c.nt d = true) (ht : c.P.underlying xt = some .string) (hx : Less (s.op x) (.raw (.string b)))
    (k : SeqWP c ops Q (i + 1) rest (St.put { s with H := s.H ++ [.raw (.stringIter b 0)] } d (.ptr s.H.length 0))) : SeqWP c ops Q i (⟨d, .range xt x, t, p, af, none⟩ :: rest) s :=
  sq_run (by intro c h; cases h) hd (fun e ac hs => by
    have hv := rep_raw hx (hs.op x)
    refine ⟨.pointer (some ⟨e.w.heap.size, 0, none⟩), e.push (.raw (.stringIter b 0)) (.stringIter b 0), ?_, hs.push (push_raw hs.ok _), ?_⟩
    · simp only [execOp, hv, Sem.run_bind, run_range_string e.w xt b ht]; rfl
    · rw [Rep]
      refine ⟨by simp [Env.push, hs.H], ?_, e.w.heap.size, by simp [Env.push, hs.H], rfl⟩
      unfold Env.T; simp [Env.push, hs.H, tokOf]) k
theorem run_next_at {P : Program} {w : World} {b : Nat} {s : ByteArray} {pos : Nat} {ty : TypeId} (hh : w.heap[b]? = some (.stringIter s pos)) (h : pos < s.size) :
    (Instr.next (.pointer (some ⟨b, 0, none⟩)) true ty).run P w = .ok (.tuple #[.bool true, .int .i64 pos, .int .i32 (Utf8.decode s pos).1]) (w.putObj b (.stringIter s (pos + (Utf8.decode s pos).2))) := by
  simp only [Instr.next, getObj, setObj, Sem.run_bind, Sem.run, hh, Result.andThen, h, if_true]
  simp [goInt, World.putObj]
theorem sq_nextS {x : Operand} {ty : TypeId} {b : ByteArray} {j pos : Nat} (hd : dOK c.nt d = true) (hx : Less (s.op x) (.ptr j 0)) (hj : s.H[j]? = some (.raw (.stringIter b pos)))
    (k1 : pos < b.size → SeqWP c ops Q (i + 1) rest (St.put { s with H := s.H.set j (.raw (.stringIter b (pos + (Utf8.decode b pos).2))) } d (.tup [.raw (.bool true), .raw (.int .i64 pos), .raw (.int .i32 (Utf8.decode b pos).1)])))
    (k2 : ¬ pos < b.size → SeqWP c ops Q (i + 1) rest (St.put s d (.tup [.raw (.bool false)]))) : SeqWP c ops Q i (⟨d, .next x true, ty, p, af, none⟩ :: rest) s := by
  by_cases hlt : pos < b.size
  · refine sq_run (by intro c h; cases h) hd (fun e ac hs => ?_) (k1 hlt)
    have hv := hx e _ (hs.op x)
    rw [Rep] at hv
    obtain ⟨_, _, q, hq, hv⟩ := hv
    have hje : e.H[j]? = some (.raw (.stringIter b pos)) := by rw [hs.H]; exact hj
    obtain ⟨q', hq', hh, _⟩ := hs.ok.objs j _ hje
    rw [hq] at hq'; cases hq'
    obtain ⟨ok', fr'⟩ := setRaw_all (o := .stringIter b (pos + (Utf8.decode b pos).2)) hs.ok hje hq rfl rfl
    refine ⟨.tuple #[.bool true, .int .i64 pos, .int .i32 (Utf8.decode b pos).1], e.setRaw j q (.stringIter b (pos + (Utf8.decode b pos).2)), ?_, ⟨hs.size, fun t => Rep.mono fr'.le _ (hs.slots t), hs.defers.mono fr'.le, by simp [Env.setRaw, hs.H], ok', hs.fr.trans fr'⟩, ?_⟩
    · simp only [execOp, hv, Sem.run_bind, run_next_at hh hlt]; rfl
    · rw [Rep]; exact ⟨_, rfl, RepL.cons (by rw [Rep]) (RepL.cons (by rw [Rep]) (RepL.cons (by rw [Rep]) RepL.nil))⟩
  · refine sq_run (by intro c h; cases h) hd (fun e ac hs => ?_) (H' := s.H) (k2 hlt)
    have hv := hx e _ (hs.op x)
    rw [Rep] at hv
    obtain ⟨_, _, q, hq, hv⟩ := hv
    have hje : e.H[j]? = some (.raw (.stringIter b pos)) := by rw [hs.H]; exact hj
    obtain ⟨q', hq', hh, _⟩ := hs.ok.objs j _ hje
    rw [hq] at hq'; cases hq'
    refine ⟨.tuple #[.bool false], e, ?_, hs, ?_⟩
    · have : (Instr.next (.pointer (some ⟨q, 0, none⟩)) true ty).run c.P e.w = .ok (.tuple #[.bool false]) e.w := by
        simp [Instr.next, getObj, Sem.run, hh, hlt]
      simp only [execOp, hv, Sem.run_bind, this]; rfl
    · rw [Rep]; exact ⟨_, rfl, RepL.cons (by rw [Rep]) RepL.nil⟩
end seq
end Go.Ab
namespace Go.Ab
open Go.Lib
def cut (c : UInt8) : List UInt8 → List (List UInt8)
  | [] => [[]]
  | b :: l => if b = c then [] :: cut c l else match cut c l with
    | [] => [[b]]
    | x :: xs => (b :: x) :: xs
theorem index_eq (c : UInt8) (l : List UInt8) : index (c :: l) [c] = 0 := by
  unfold index; rw [if_pos (by simp)]
theorem index_ne {b c : UInt8} (l : List UInt8) (h : b ≠ c) : index (b :: l) [c] = if index l [c] == -1 then -1 else index l [c] + 1 := by
  rw [index]
  rw [if_neg (by simp; exact fun e => h e.symm)]
theorem split_cut (c : UInt8) : ∀ l : List UInt8, splitK [c] 0 (count l [c]) l = cut c l
  | [] => rfl
  | b :: l => by
    have ih := split_cut c l
    by_cases h : b = c
    · subst h
      rw [count_cons_eq, Nat.add_comm, cut, if_pos rfl, ← ih]
      rw [splitK, index_eq]
      rw [if_neg (by decide)]
      rfl
    · rw [count_cons_ne _ _ _ h, cut, if_neg h, ← ih]
      cases hk : count l [c] with
      | zero => rfl
      | succ k =>
        rw [splitK, splitK, index_ne l h]
        have hge := index_ge l [c]
        by_cases hi : index l [c] = -1
        · rw [hi]; rfl
        · have e1 : (index l [c] == -1) = false := by simpa using hi
          have e2 : (index l [c] + 1 == -1) = false := by simp; omega
          rw [e1]
          simp only [Bool.false_eq_true, if_false, e2]
          have e3 : (index l [c] + 1).toNat = (index l [c]).toNat + 1 := by omega
          rw [e3]
          simp only [Nat.add_zero, List.take_succ_cons, List.length_singleton]
          congr 1
theorem splitB_cut (c : UInt8) (l : List UInt8) : (splitB ⟨#[c]⟩ 0 (countB ⟨l.toArray⟩ ⟨#[c]⟩) ⟨l.toArray⟩).map (·.data.toList) = cut c l := by
  rw [splitB_data]
  have : countB ⟨l.toArray⟩ ⟨#[c]⟩ = count l [c] := by unfold countB; simp
  rw [this]
  have := split_cut c l
  simpa using this
theorem cut_len (c : UInt8) : ∀ l : List UInt8, (cut c l).length ≤ l.length + 1 ∧ 0 < (cut c l).length
  | [] => by simp [cut]
  | b :: l => by
    have := cut_len c l
    rw [cut]
    split
    · simp; omega
    · cases h : cut c l with
      | nil => rw [h] at this; simp at this
      | cons x xs => rw [h] at this; simp at this ⊢; omega
theorem cut_mem (c : UInt8) : ∀ l : List UInt8, ∀ x ∈ cut c l, x.length ≤ l.length
  | [] => by simp [cut]
  | b :: l => by
    intro x hx
    have ih := cut_mem c l
    rw [cut] at hx
    split at hx
    · rcases List.mem_cons.1 hx with rfl | hx
      · simp
      · have := ih x hx; simp; omega
    · cases h : cut c l with
      | nil => rw [h] at hx; simp at hx; subst hx; simp
      | cons y ys =>
        rw [h] at hx ih
        rcases List.mem_cons.1 hx with rfl | hx
        · have := ih y (by simp); simp; omega
        · have := ih x (by simp [hx]); simp; omega
end Go.Ab
namespace Go.Ab
variable [Tabs]
def methOf (P : Program) (t : TypeId) (name : String) : Option FuncId :=
  match P.info? t, P.underlying t with
  | some i, some (.struct _) => match i.methods.find? (·.name == name) with
    | some m => match m.path.isEmpty, m.func with
      | true, some (f, false) => some f
      | _, _ => none
    | none => none
  | _, _ => none
theorem run_method {P : Program} {t : TypeId} {name : String} {f : FuncId} (h : methOf P t name = some f) (n : Nat) (v : Value) (w : World) : (method (n + 1) t v name).run P w = .ok (f, v) w := by
  unfold methOf at h
  split at h
  · rename_i i fs hi hu
    split at h
    · rename_i m hm
      split at h
      · rename_i f' hp hf
        simp only [Option.some.injEq] at h; subst h
        have hp' : m.path = #[] := by simpa using hp
        simp [method, typeInfo, hi, hm, hp', follow, hf, receiverAt, run_und hu, Place.get]
      · cases h
    · cases h
  · cases h
section ops
variable {P : Program} {r : Option Nat} {H : List AObj} {ρ : Operand → AV}
variable {d : Option Tmp} {t : TypeId} {p : String} {af : Array Edge} {g : Option (Nat × Bool)}
theorem ev_invoke {x : Operand} {name : String} {ats : Array TypeId} {dt : TypeId} {f : FuncId} {a res : AV} (hm : methOf P dt name = some f) (he : Ent P f) (hx : Less (ρ x) (.ifc dt a)) (hc : APure P f [a] res) :
    Ev P r ⟨d, .call ⟨.invoke x name, #[], ats⟩, t, p, af, g⟩ H ρ res := by
  intro e ac next Q' ok hH hs hn
  have hxr := hx e _ (hs x (by simp [Op.operands, Call.operands]))
  rw [Rep] at hxr
  obtain ⟨u, hu, hr⟩ := hxr
  refine ⟨about_FW _ _ _ _ _, ?_⟩
  show Oper.uponIn (FW r) 0 P _ ac next Q' (((Oper.semAt r ac.eval ⟨d, .call ⟨.invoke x name, #[], ats⟩, t, p, af, g⟩)).run P e.w)
  have hrun : (execOp ac.eval ⟨d, .call ⟨.invoke x name, #[], ats⟩, t, p, af, g⟩).run P e.w = .ok (.enter f #[u]) e.w := by
    have hmr := run_method hm (P.types.size + 99) u e.w
    have e1 : P.types.size + Made.depth = (P.types.size + 99) + 1 := rfl
    simp only [execOp, resolve, hu]
    simp [invoke, callMethod, run_program, e1, hmr, he #[u] e.w]
  rw [semAt_of (by intro c h; cases h), hrun]
  refine ⟨fun h => by simp [FW] at h, ?_⟩
  have := hc e #[u] ok (RepL.cons hr RepL.nil)
  refine CallsIn.mono (F := FW r) (n := 0) this ?_
  rintro x w' ⟨u, e', rfl, rfl, hxt, hu⟩
  exact hn u e' hxt hu
end ops
theorem sub_token_slx {c : Ctx} {s : St} (u sz : Nat) {es : List (List AV)} (hu : Less (sget s.sl u) (.slx sz es)) :
    Sub c s { s with H := s.H ++ [.tok es.length], sl := (u, .own s.H.length sz es) :: s.sl } := by
  intro e a hs
  have hv := hu e _ (hs.slots u)
  obtain ⟨e', k1, k2, le, k4, k5, k6⟩ := sim_tok hs es.length
  refine ⟨e', k1, k6.size, fun t => ?_, k6.defers, k6.H, k6.ok, k6.fr⟩
  simp only [sget]
  cases hb : u == t with
  | false => exact k6.slots t
  | true =>
    have : u = t := by simpa using hb
    subst this
    have hv' := Rep.mono le _ hv
    simp only [cond_true]
    rw [Rep] at hv'
    obtain ⟨ad, len, h1, h2, h3, h4, h5⟩ := hv'
    rw [Rep]
    exact ⟨ad, len, len, h1, h2, Nat.le_refl _, h3, h4, h5, by rw [k4]; simp, ⟨es.length, by unfold Env.T; rw [k4]; simp [tokOf], Nat.le_refl _⟩, fun _ _ _ h => absurd h (Nat.lt_irrefl _)⟩
end Go.Ab
namespace Go.Ab
variable [Tabs]
section
variable {c : Ctx} {Q : AExit → St → Prop} {s : St}
end
section
variable {P : Program} {r : Option Nat} {H : List AObj} {ρ : Operand → AV} {o : Oper}
end
section
variable {c : Ctx} {Q : AExit → St → Prop} {H : List AObj} {df : List ADef} {ρ : Operand → AV} {o : Oper}
end
theorem sub_token_cell {c : Ctx} {s : St} (b sz : Nat) (l1 l2 : List AV) (hb : s.H[b]? = some (.cells (l1 ++ .raw (.slice none 0 0) :: l2))) : Sub c s { s with H := s.H.set b (.cells (l1 ++ .own s.H.length sz [] :: l2)) ++ [.tok 0] } := by
  have h1 : Sub c s { s with H := s.H ++ [.tok 0] } := fun e a hs => by
    obtain ⟨e', k1, _, _, _, _, k2⟩ := sim_tok hs 0; exact ⟨e', k1, k2⟩
  have hl := lt_of_get? hb
  have h2 : Sub c { s with H := s.H ++ [.tok 0] } { s with H := (s.H ++ [AObj.tok 0]).set b (.cells (l1 ++ .own s.H.length sz [] :: l2)) } :=
    sub_recell (s := { s with H := s.H ++ [AObj.tok 0] }) (l := l1 ++ .raw (.slice none 0 0) :: l2) (l' := l1 ++ .own s.H.length sz [] :: l2) (by rw [List.getElem?_append_left hl]; exact hb) fun e a hs vs hv => by
      have hown : ∀ v, Rep e (.raw (.slice none 0 0)) v → Rep e (.own s.H.length sz []) v := fun v h2 => by
        rw [Rep] at h2
        rw [Rep, h2]
        exact ⟨none, 0, 0, rfl, rfl, Nat.le_refl _, fun _ => rfl, by simp, fun ad h => (by cases h), by rw [hs.H]; simp, ⟨0, by unfold Env.T; rw [hs.H]; simp [tokOf], Nat.le_refl _⟩, fun _ ad h => (by cases h)⟩
      clear h1 hb
      induction l1 generalizing vs with
      | nil =>
        simp only [List.nil_append] at hv ⊢
        rw [RepL] at hv ⊢
        obtain ⟨v, rest, h1, h2, h3⟩ := hv
        exact ⟨v, rest, h1, hown v h2, h3⟩
      | cons x l1 ih =>
        simp only [List.cons_append] at hv ⊢
        rw [RepL] at hv ⊢
        obtain ⟨v, rest, h1, h2, h3⟩ := hv
        exact ⟨v, rest, h1, h2, ih rest h3⟩
  have h3 := h1.trans h2
  rwa [List.set_append_left _ _ hl] at h3
end Go.Ab
namespace Go.Ab
variable [Tabs]
def makeB (P : Program) (t : TypeId) (n : Nat) : Option (List Value) :=
  match P.underlying t with
  | some (.slice e) => match P.info? e with
    | some i => match i.zero with
      | some z => if Nat.ble (i.bytes * n) 281474976710656 = true ∧ (madeCells z.cells (n * i.size)).toList.all isCell = true then some (madeCells z.cells (n * i.size)).toList else none
      | none => none
    | none => none
  | _ => none
theorem makeB_ex {P : Program} {t : TypeId} {n : Nat} {cs : List Value} (h : makeB P t n = some cs) :
    ∃ e i z, P.underlying t = some (.slice e) ∧ P.info? e = some i ∧ i.zero = some z ∧ i.bytes * n ≤ 281474976710656 ∧ (madeCells z.cells (n * i.size)).toList = cs ∧ cs.all isCell = true := by
  unfold makeB at h
  split at h
  · rename_i e h1
    split at h
    · rename_i i h2
      split at h
      · rename_i z h3
        split at h
        · rename_i h4
          simp only [Option.some.injEq] at h
          exact ⟨e, i, z, h1, h2, h3, Nat.le_of_ble_eq_true h4.1, h, by rw [← h]; exact h4.2⟩
        · cases h
      · cases h
    · cases h
  · cases h
section seq
variable {c : Ctx} {ops : Array Oper} {Q : AExit → St → Prop} {rest : List Oper} {s : St} {i : Nat}
variable {d : Option Tmp} {t : TypeId} {p : String} {af : Array Edge}
theorem sq_make {st : TypeId} {x y : Operand} {n : Nat} {cs : List Value} (hd : dOK c.nt d = true) (hf : makeB c.P st n = some cs) (hn : n ≤ 1000000)
    (hx : Less (s.op x) (.raw (.int .i64 n))) (hy : Less (s.op y) (.raw (.int .i64 n)))
    (k : SeqWP c ops Q (i + 1) rest (St.put { s with H := s.H ++ [.cells (cs.map .raw)] } d (.msl s.H.length 0 n n))) :
    SeqWP c ops Q i (⟨d, .makeSlice st x y, t, p, af, none⟩ :: rest) s := by
  refine sq_op fun e ac hs next hn' => ?_
  have hu := rep_raw hx (hs.op x)
  have hv := rep_raw hy (hs.op y)
  obtain ⟨et, ti, z, k1, k2, k3, k4, k5, k6⟩ := makeB_ex hf
  have hrun := run_make (P := c.P) e.w st et ti z k1 k2 k3 .i64 .i64 (n : Int) (n : Int) (by omega) (Int.le_refl _) (by rw [← Int.natCast_mul]; omega) (by omega)
  simp only [Int.toNat_natCast] at hrun
  have hrl : RepL e (cs.map .raw) (madeCells z.cells (n * ti.size)).toList := by rw [k5]; exact RepL.raws cs
  have hcell : ∀ q ∈ (madeCells z.cells (n * ti.size)).toList, isCell q = true := by
    rw [k5]; exact fun q hq => List.all_eq_true.1 k6 q hq
  have hs2 := hs.push (push_cells (t := et) hs.ok hrl hcell)
  refine ⟨about_FW _ _ _ _ _, ?_⟩
  show Oper.uponIn (FW c.r) 0 c.P _ ac next (lift c Q) (((Oper.semAt c.r ac.eval ⟨d, .makeSlice st x y, t, p, af, none⟩)).run c.P e.w)
  rw [semAt_of (by intro c h; cases h)]
  have hex : (execOp ac.eval ⟨d, .makeSlice st x y, t, p, af, none⟩).run c.P e.w = ((Instr.makeSlice st (.int .i64 n) (.int .i64 n)).run c.P e.w).andThen fun v w'' => .ok (.value v) w'' := by
    simp [execOp, hu, hv]
  rw [hex, hrun]
  refine hn' _ _ _ k (hs2.put hd ?_)
  rw [Rep]
  refine ⟨?_, ?_, e.w.heap.size, ?_, by simp, Nat.le_refl _⟩
  · simp [Env.push, hs.H]
  · simp [Env.T, Env.push, hs.H, tokOf]
  · simp [Env.push, hs.H]
end seq
end Go.Ab
namespace Go.Ab
open Go.ChangeShapes Go.WideShapes
variable [Tabs]
inductive Sh where
  | int (k : IntKind)
  | bool
  | str
  | unit
  | two (a b : Sh)
  | sl (s : Sh)
def Sh.den : Sh → Type
  | .int _ => Int
  | .bool => Bool
  | .str => List UInt8
  | .unit => Unit
  | .two a b => a.den × b.den
  | .sl s => List s.den
def Sh.size : Sh → Nat
  | .int _ => 1
  | .bool => 1
  | .str => 1
  | .sl _ => 1
  | .unit => 0
  | .two a b => a.size + b.size
def Sh.flat : Sh → Bool
  | .int _ => true
  | .bool => true
  | .str => true
  | .unit => true
  | .sl _ => false
  | .two a b => a.flat && b.flat
def Sh.av : (s : Sh) → s.den → List AV
  | .int k, n => [.raw (.int k n)]
  | .bool, b => [.raw (.bool b)]
  | .str, l => [S l]
  | .unit, _ => []
  | .two a b, x => a.av x.1 ++ b.av x.2
  | .sl s, x => [.sl s.size (x.map s.av)]
def Sh.one : (s : Sh) → s.den → AV
  | .int k, n => .raw (.int k n)
  | .bool, b => .raw (.bool b)
  | .str, l => S l
  | .unit, _ => .agg []
  | .two a b, x => .agg (a.av x.1 ++ b.av x.2)
  | .sl s, x => .sl s.size (x.map s.av)
theorem Sh.av_len : (s : Sh) → (x : s.den) → (s.av x).length = s.size
  | .int _, _ => rfl
  | .bool, _ => rfl
  | .str, _ => rfl
  | .unit, _ => rfl
  | .sl _, _ => rfl
  | .two a b, x => by simp only [Sh.av, Sh.size, List.length_append, a.av_len x.1, b.av_len x.2]
def fsSh (P : Program) (g : TypeId → Option Sh) : List Field → Nat → Option Sh
  | [], _ => some .unit
  | f :: r, o => match g f.type, fsSh P g r (o + P.cellsOf f.type) with
    | some a, some b => if f.offset = o ∧ P.cellsOf f.type = a.size then some (.two a b) else none
    | _, _ => none
def arSh (a : Sh) : Nat → Sh
  | 0 => .unit
  | n + 1 => .two a (arSh a n)
def shOf (P : Program) : Nat → TypeId → Option Sh
  | 0, _ => none
  | n + 1, t => match P.underlying t with
    | some (.int k) => some (.int k)
    | some .bool => some .bool
    | some .string => some .str
    | some (.slice e) => match shOf P n e with
      | some s => if 0 < s.size ∧ P.cellsOf e = s.size then some (.sl s) else none
      | none => none
    | some (.struct fs) => match fsSh P (shOf P n) fs.toList 0 with
      | some s => if P.cellsOf t = s.size then some s else none
      | none => none
    | some (.array m e) => match shOf P n e with
      | some s => if P.cellsOf e = s.size ∧ P.cellsOf t = (arSh s m).size then some (arSh s m) else none
      | none => none
    | _ => none
def env0 (w : World) : Env := { H := [], μ := fun _ => none, G := fun b => match w.heap[b]? with | some (.cells cs _ _) => cs.size | _ => 0, w := w }
theorem env0_lt {w : World} {b off : Nat} {v : Value} (h : w.cell? ⟨b, off, none⟩ = some v) : off < (env0 w).G b := by
  unfold World.cell? at h
  simp only [env0]
  split at h
  · rename_i c t f hb
    simp only [hb]
    simp only [Option.isSome_none, Bool.false_eq_true, if_false] at h
    exact (Array.getElem?_eq_some_iff.1 h).1
  · cases h
theorem cells_read {w : World} {b : Nat} : ∀ {l : List AV} {vs : List Value} {off : Nat}, RepL (env0 w) l vs → (∀ c ∈ vs, isCell c = true) → (∀ i, i < vs.length → w.cell? ⟨b, off + i, none⟩ = vs[i]?) → CellsAt (env0 w) l b off
  | [], _, _, _, _, _ => by rw [CellsAt]; trivial
  | a :: l, _, off, h, h1, hc => by
    rw [RepL] at h; obtain ⟨v, rest, rfl, h2, h3⟩ := h
    have c0 : w.cell? ⟨b, off, none⟩ = some v := by simpa using hc 0 (by simp)
    rw [CellsAt]
    refine ⟨⟨env0_lt c0, v, c0, h2, h1 v (by simp)⟩, cells_read h3 (fun c hm => h1 c (List.mem_cons_of_mem _ hm)) fun i hi => ?_⟩
    have := hc (i + 1) (by simp; omega)
    rw [show off + 1 + i = off + (i + 1) by omega]; simpa using this
section
variable {H : Type} {enc : TypeId × Value → H} {P : Program} {w : World} {base : Nat} {spare : Nat → Bool} {held : Bool}
theorem fs_read {g : TypeId → Option Sh} {cs : List Value}
    (ih : ∀ {t : TypeId} {s : Sh} {k : Nat} {cs : List Value} {x : DataW H × List MemPlace}, g t = some s → DataW.trod enc P w base spare held k t cs = some x → ∃ y : s.den, RepL (env0 w) (s.av y) cs ∧ ∀ c ∈ cs, isCell c = true) :
    ∀ {fs : List Field} {o : Nat} {s : Sh}, fsSh P g fs o = some s → cs.length = o + s.size →
      (∀ f ∈ fs, ∃ (k : Nat) (x : DataW H × List MemPlace), DataW.trod enc P w base spare held k f.type ((cs.drop f.offset).take (P.cellsOf f.type)) = some x) → ∃ y : s.den, RepL (env0 w) (s.av y) (cs.drop o) ∧ ∀ c ∈ cs.drop o, isCell c = true
  | [], o, s, h, hl, _ => by
    simp only [fsSh, Option.some.injEq] at h; subst h
    have : cs.drop o = [] := List.drop_eq_nil_of_le (by simp only [Sh.size] at hl; omega)
    rw [this]; exact ⟨(), RepL.nil, by simp⟩
  | f :: r, o, s, h, hl, hr => by
    unfold fsSh at h
    split at h
    · rename_i a b ha hb
      split at h
      · rename_i hc
        obtain ⟨ho, hcs⟩ := hc
        simp only [Option.some.injEq] at h; subst h
        obtain ⟨k, x, hx⟩ := hr f (by simp)
        rw [ho, hcs] at hx
        rw [hcs] at hb
        obtain ⟨y1, r1, c1⟩ := ih ha hx
        obtain ⟨y2, r2, c2⟩ := fs_read ih hb (by simp only [Sh.size] at hl; omega) (fun q hq => hr q (List.mem_cons_of_mem _ hq))
        have e : cs.drop o = (cs.drop o).take a.size ++ cs.drop (o + a.size) := by
          rw [← List.drop_drop]; exact (List.take_append_drop _ _).symm
        rw [e]
        refine ⟨(y1, y2), RepL.append r1 r2, fun c hm => ?_⟩
        rcases List.mem_append.1 hm with h | h
        · exact c1 c h
        · exact c2 c h
      · cases h
    · cases h
theorem ar_read {s : Sh} {e : TypeId} {cs : List Value} (hcs : P.cellsOf e = s.size)
    (ih : ∀ {k : Nat} {cs : List Value} {x : DataW H × List MemPlace}, DataW.trod enc P w base spare held k e cs = some x → ∃ y : s.den, RepL (env0 w) (s.av y) cs ∧ ∀ c ∈ cs, isCell c = true) :
    ∀ {m j : Nat}, cs.length = j * s.size + (arSh s m).size →
      (∀ i, i < j + m → ∃ (k : Nat) (x : DataW H × List MemPlace), DataW.trod enc P w base spare held k e ((cs.drop (i * P.cellsOf e)).take (P.cellsOf e)) = some x) → ∃ y : (arSh s m).den, RepL (env0 w) ((arSh s m).av y) (cs.drop (j * s.size)) ∧ ∀ c ∈ cs.drop (j * s.size), isCell c = true
  | 0, j, hl, _ => by
    have : cs.drop (j * s.size) = [] := List.drop_eq_nil_of_le (by simp only [arSh, Sh.size] at hl; omega)
    rw [this]; exact ⟨(), RepL.nil, by simp⟩
  | m + 1, j, hl, hr => by
    obtain ⟨k, x, hx⟩ := hr j (by omega)
    rw [hcs] at hx
    obtain ⟨y1, r1, c1⟩ := ih hx
    obtain ⟨y2, r2, c2⟩ := ar_read hcs ih (m := m) (j := j + 1) (by simp only [arSh, Sh.size] at hl; rw [Nat.add_mul]; omega) (fun i hi => hr i (by omega))
    have e : cs.drop (j * s.size) = (cs.drop (j * s.size)).take s.size ++ cs.drop ((j + 1) * s.size) := by
      rw [Nat.add_mul, Nat.one_mul, ← List.drop_drop]; exact (List.take_append_drop _ _).symm
    rw [e]
    refine ⟨(y1, y2), RepL.append r1 r2, fun c hm => ?_⟩
    rcases List.mem_append.1 hm with h | h
    · exact c1 c h
    · exact c2 c h
/-- **What a reading gives.** -/
theorem sh_read (hsr : ∀ b, spare b = true) : ∀ (n : Nat) {t : TypeId} {s : Sh} {k : Nat} {cs : List Value} {x : DataW H × List MemPlace}, shOf P n t = some s → DataW.trod enc P w base spare held k t cs = some x →
    ∃ y : s.den, RepL (env0 w) (s.av y) cs ∧ ∀ c ∈ cs, isCell c = true
  | 0, _, _, _, _, _, h, _ => by cases h
  | n + 1, t, s, k, cs, x, h, hx => by
    unfold shOf at h
    split at h
    · rename_i ik hu
      simp only [Option.some.injEq] at h; subst h
      obtain ⟨m, rfl, _, _⟩ := DataW.trod_int hu hx
      exact ⟨m, RepL.cons (by rw [Rep]) RepL.nil, fun c hc => by simp at hc; subst hc; rfl⟩
    · rename_i hu
      simp only [Option.some.injEq] at h; subst h
      obtain ⟨m, rfl, _⟩ := DataW.trod_bool hu hx
      exact ⟨m, RepL.cons (by rw [Rep]) RepL.nil, fun c hc => by simp at hc; subst hc; rfl⟩
    · rename_i hu
      simp only [Option.some.injEq] at h; subst h
      obtain ⟨m, rfl, _, _⟩ := DataW.trod_string hu hx
      exact ⟨m.data.toList, RepL.cons (by rw [Rep]) RepL.nil, fun c hc => by simp at hc; subst hc; rfl⟩
    · rename_i e hu
      split at h
      · rename_i s1 he
        split at h
        · rename_i hc
          obtain ⟨hfl, hcs⟩ := hc
          simp only [Option.some.injEq] at h; subst h
          rcases Go.Deep.open_slice hu hx with ⟨rfl, _⟩ | ⟨a, len, cap, m, n', D, Pl, rfl, hb, hl, hm, hmm, _, hi⟩
          · refine ⟨([] : List s1.den), RepL.cons ?_ RepL.nil, fun c hc => by simp at hc; subst hc; rfl⟩
            show Rep _ (.sl s1.size []) _
            rw [Rep]
            exact ⟨none, 0, 0, rfl, rfl, Nat.le_refl _, fun _ => rfl, by simp, fun ad h => by cases h⟩
          · have hlm : len ≤ m := by rw [hmm]; split <;> omega
            have hsp : cap ≠ 0 → a.spot = none := fun h0 => by
              have hmc : m = cap := by rw [hmm, hsr]; rfl
              obtain ⟨cs', hc, _⟩ := hi 0 (by omega)
              obtain ⟨_, hcl, hat⟩ := World.cells?_some hc
              have h1 := hat (i := 0) (by omega)
              rw [Nat.zero_mul] at h1
              have e1 : (a.add 0).add 0 = a := rfl
              rw [e1] at h1
              unfold World.cell? at h1
              cases hq : a.spot with
              | none => rfl
              | some q =>
                exfalso
                rw [hq] at h1
                have h2 : cs'[0]? = none := by
                  rw [← h1]; split <;> rfl
                rw [List.getElem?_eq_none_iff] at h2; omega
            by_cases h0 : cap = 0
            · refine ⟨([] : List s1.den), RepL.cons ?_ RepL.nil, fun c hc => by simp at hc; subst hc; rfl⟩
              show Rep _ (.sl s1.size []) _
              rw [Rep]
              exact ⟨some a, len, cap, rfl, by simp; omega, hl, fun _ => h0, by simp, fun ad h => ⟨fun h => absurd h0 h, by rw [ElemsAt]; trivial⟩⟩
            have hsp := hsp h0
            obtain ⟨b, off, sp⟩ := a
            simp only at hsp; subst hsp
            have key : ∀ q, q ≤ len → ∃ ys : List s1.den, ys.length = q ∧ ElemsAt (env0 w) (ys.map s1.av) b off := by
              intro q
              induction q with
              | zero => intro _; exact ⟨[], rfl, by rw [List.map_nil, ElemsAt]; trivial⟩
              | succ q ihq =>
                intro hq
                obtain ⟨ys, hy, hel⟩ := ihq (by omega)
                obtain ⟨cs', hc, ht'⟩ := hi q (by omega)
                obtain ⟨z, hz, hz1⟩ := sh_read hsr n he ht'
                obtain ⟨_, hcl, hat⟩ := World.cells?_some hc
                refine ⟨ys ++ [z], by simp [hy], ?_⟩
                rw [List.map_append]
                refine ElemsAt.append (sz := s1.size) hel (fun c hm => by obtain ⟨u, _, rfl⟩ := List.mem_map.1 hm; exact s1.av_len u) ?_
                rw [List.map_cons, List.map_nil, ElemsAt, ElemsAt]
                refine ⟨cells_read hz hz1 fun i hi => ?_, trivial⟩
                rw [List.length_map, hy]
                have hthis := hat (i := i) (by omega)
                rw [Addr.add_lit, Addr.add_lit, hcs] at hthis
                exact hthis
            obtain ⟨ys, hy, hel⟩ := key len (Nat.le_refl _)
            refine ⟨ys, RepL.cons ?_ RepL.nil, fun c hc => by simp at hc; subst hc; rfl⟩
            rw [Rep]
            exact ⟨some ⟨b, off, none⟩, len, cap, rfl, by simp [hy], hl, fun h => (by cases h), fun c hm => by obtain ⟨u, _, rfl⟩ := List.mem_map.1 hm; exact s1.av_len u, fun ad had => by cases had; exact ⟨fun _ => rfl, hel⟩⟩
        · cases h
      · cases h
    · rename_i fs hu
      split at h
      · rename_i s1 hf
        split at h
        · rename_i hc
          simp only [Option.some.injEq] at h; subst h
          obtain ⟨xs, n', _, _, hlen, hxl, hfx⟩ := DataW.trod_struct hu hx
          have := fs_read (g := shOf P n) (cs := cs) (fun h1 h2 => sh_read hsr n h1 h2) hf (by omega) (fun f hm => by
            obtain ⟨i, hi, he⟩ := List.getElem_of_mem hm
            have hi' : i < xs.length := by rw [hxl]; simpa using hi
            exact ⟨n', xs[i], (hfx i f (by rw [← he]; simp)).trans (List.getElem?_eq_getElem hi')⟩)
          simpa using this
        · cases h
      · cases h
    · rename_i m e hu
      split at h
      · rename_i s1 he
        split at h
        · rename_i hc
          obtain ⟨hcs, hct⟩ := hc
          simp only [Option.some.injEq] at h; subst h
          obtain ⟨xs, n', _, _, hlen, hxl, hfx⟩ := DataW.trod_array hu hx
          have := ar_read (s := s1) (e := e) (cs := cs) hcs (fun h2 => sh_read hsr n he h2) (m := m) (j := 0) (by omega) (fun i hi => by
            have hi' : i < xs.length := by omega
            exact ⟨n', xs[i], (hfx i (by omega)).trans (List.getElem?_eq_getElem hi')⟩)
          simpa using this
        · cases h
      · cases h
    · cases h
theorem sh_arg (hsr : ∀ b, spare b = true) (n : Nat) {t : TypeId} {s : Sh} {r : Reach} {b0 : Nat} {v : Value} {d : DataW H} {ps : List MemPlace} (hs : shOf P n t = some s) (hv : Value.okWide P w r b0 t v) (h : DataW.Trod enc P w base spare held t v d ps) :
    ∃ y : s.den, RepL (env0 w) (s.av y) v.cells.toList ∧ ∀ c ∈ v.cells.toList, isCell c = true := by
  obtain ⟨k, hk⟩ := h
  exact sh_read hsr n hs hk
theorem arg_agg {t : TypeId} {r : Reach} {b0 : Nat} {v : Value} {l : List AV} (hu : (∃ fs, P.underlying t = some (.struct fs)) ∨ ∃ n e, P.underlying t = some (.array n e)) (hv : Value.okWide P w r b0 t v)
    (h : RepL (env0 w) l v.cells.toList ∧ ∀ c ∈ v.cells.toList, isCell c = true) : Rep (env0 w) (.agg l) v := by
  have : ∃ cs, v = .agg cs := by
    unfold Value.okWide at hv
    rcases hu with ⟨fs, hu⟩ | ⟨n, e, hu⟩ <;> rw [hu] at hv <;> (obtain ⟨cs, h, _⟩ := hv; exact ⟨cs, h⟩)
  obtain ⟨cs, rfl⟩ := this
  rw [Rep]; exact ⟨cs, rfl, h.1, h.2⟩
def oneV : Value → Bool
  | .agg _ => false
  | .tuple _ => false
  | _ => true
theorem oneV_cells {v : Value} (h : oneV v = true) : v.cells.toList = [v] := by cases v <;> first | rfl | cases h
theorem arg_one {v : Value} {a : AV} (hv : oneV v = true) (h : RepL (env0 w) [a] v.cells.toList ∧ ∀ c ∈ v.cells.toList, isCell c = true) : Rep (env0 w) a v := by
  have h := h.1
  rw [oneV_cells hv, RepL] at h
  obtain ⟨u, rest, e, h2, _⟩ := h
  cases e; exact h2
end
end Go.Ab
set_option linter.all false
namespace Go.Ab
section
variable [Tabs] {c : Ctx} {ops : Array Oper} {Q : AExit → St → Prop} {rest : List Oper} {s : St} {i : Nat}
variable {d : Option Tmp} {t : TypeId} {p : String} {af : Array Edge}
theorem env_reH {e0 e : Env} (ok : EnvOK e) (fr : Fr e0 e) {H' : List AObj} (hl : H'.length = e.H.length) (hT : ∀ i : Nat, tokOf (H'[i]?) = tokOf (e.H[i]?))
    (ho : ∀ e' : Env, e' = { e with H := H' } → e.Le e' → ∀ (i : Nat) o, H'[i]? = some o → ObjSim e' i o) : e.Le { e with H := H' } ∧ EnvOK { e with H := H' } ∧ Fr e0 { e with H := H' } := by
  have hT' : ∀ i : Nat, ({ e with H := H' } : Env).T i = e.T i := fun i => by unfold Env.T; simp only; rw [hT]
  have le : e.Le { e with H := H' } := ⟨by simp only; omega, fun j _ ht => ⟨by rw [hT']; exact ht, fun _ hb => hb⟩, fun b off h => ⟨h, rfl⟩, fun j n ht => ⟨n, by rw [hT']; exact ht, Nat.le_refl _, fun _ => ⟨rfl, fun b cs t _ hh => ⟨rfl, cs, hh, rfl⟩⟩⟩⟩
  exact ⟨le, ⟨ok.fresh, fun j o h => ho _ rfl le j o h, fun j k b hj hk => ok.inj j k b (by simp only at hj; omega) (by simp only at hk; omega), fun j b hj hm => ok.live j b (by simp only at hj; omega) hm,
    ok.tabs.sub rfl fun j b hj hm => ⟨j, by simp only at hj; omega, hm⟩⟩, ⟨fr.size, fr.still, fr.heap, fun j b hj hm => fr.objs j b (by simp only at hj; omega) hm, fr.le.trans le⟩⟩
theorem sim_reH {e : Env} {a : Act} (hs : Sim c s e a) {H' : List AObj} (hlen : H'.length = s.H.length) (hT : ∀ i : Nat, tokOf (H'[i]?) = tokOf (s.H[i]?))
    (ho : ∀ e' : Env, e' = { e with H := H' } → e.Le e' → ∀ (i : Nat) o, H'[i]? = some o → ObjSim e' i o) : Sim c { s with H := H' } { e with H := H' } a := by
  obtain ⟨le, ok, fr⟩ := env_reH hs.ok hs.fr (H' := H') (by rw [hs.H]; exact hlen) (by rw [hs.H]; exact hT) ho
  exact ⟨hs.size, fun t => Rep.mono le _ (hs.slots t), hs.defers.mono le, rfl, ok, fr⟩
theorem sq_append_b {x y : Operand} {st xt et et' : TypeId} {j sz bytes : Nat} {es xs : List (List AV)} (hd : dOK c.nt d = true)
    (hf : SlFact c.P st et sz bytes) (hk : c.P.underlying xt = some (.slice et')) (hx : s.op x = .ownb j sz et es) (hj : s.H[j]? = some (.tok es.length)) (hy : Less (s.op y) (.sl sz xs)) (hpos : 0 < xs.length)
    (hb : (es.length + xs.length) * bytes ≤ 140737488355328) (h63 : es.length + xs.length ≤ 9223372036854775807)
    (k : SeqWP c ops Q (i + 1) rest (St.put { s with H := s.H.set j (.tok (es ++ xs).length) } d (.ownb j sz et (es ++ xs)))) : SeqWP c ops Q i (⟨d, .call ⟨.builtin .append, #[x, y], #[st, xt]⟩, t, p, af, none⟩ :: rest) s := by
  rw [List.length_append] at k
  refine sq_op fun e ac hs next hn' => ?_
  have hu := hs.op x
  rw [hx, Rep] at hu
  have hv := hy e _ (hs.op y)
  obtain ⟨a, len, cap, hv1, hlen, hle, hnil, hsz, hc, h7, h8, h9⟩ := hu
  subst hlen
  have hTj : e.T j = some es.length := by unfold Env.T; rw [hs.H, hj]; rfl
  have htail := h9 hTj
  have hjl : j < e.H.length := h7
  refine ⟨about_FW _ _ _ _ _, ?_⟩
  show Oper.uponIn (FW c.r) 0 c.P _ ac next (lift c Q) (((Oper.semAt c.r ac.eval ⟨d, .call ⟨.builtin .append, #[x, y], #[st, xt]⟩, t, p, af, none⟩)).run c.P e.w)
  rw [semAt_of (by intro c h; cases h)]
  have hex : (execOp ac.eval ⟨d, .call ⟨.builtin .append, #[x, y], #[st, xt]⟩, t, p, af, none⟩).run c.P e.w = ((Builtin.append_ #[st, xt] t #[.slice a es.length cap, ac.eval y]).run c.P e.w).andThen fun v w'' => .ok (.value v) w'' := by
    simp [execOp, resolve, invoke, builtin, hv1]
  rw [hex]
  by_cases hfit : es.length + xs.length ≤ cap
  · -- it fits
    obtain ⟨ti, z, k1, k2, ksz, rfl, k5, k6, k7⟩ := hf.ex
    subst ksz
    cases a with
    | none => have := hnil rfl; omega
    | some ad =>
      obtain ⟨hsp, hel⟩ := hc ad rfl
      obtain ⟨b, off, sp⟩ := ad
      have hsp := hsp (by omega); simp only at hsp; subst hsp
      obtain ⟨hoff, hm, hg, cs, hh, hcs⟩ := htail _ rfl
      dsimp only at hoff hm hg hh hcs hel
      subst hoff
      obtain ⟨news, hsrc, hnw⟩ := src_of hk hv
      have hbl := lt_of_heap hh
      have hnl : news.length = xs.length * ti.size := hsrc.newsLen
      have hxsz : ∀ q ∈ xs, q.length = ti.size := by rw [Rep] at hv; obtain ⟨_, _, _, _, _, _, _, h, _⟩ := hv; exact h
      have hroom : es.length * ti.size + news.length ≤ cs.size := by
        have h1 : (es.length + xs.length) * ti.size ≤ cap * ti.size := Nat.mul_le_mul_right _ hfit
        rw [Nat.add_mul] at h1
        omega
      have hst := run_storeCells_at (P := c.P) b (es.length * ti.size) et news 0 cs e.w hh (by simpa using hroom) hsrc.one
      simp only [Nat.add_zero] at hst
      generalize hcs' : (cs.toList.take (es.length * ti.size) ++ news ++ cs.toList.drop (es.length * ti.size + news.length)).toArray = cs' at hst
      have hrun : (Builtin.append_ #[st, xt] t #[.slice (some ⟨b, 0, none⟩) es.length cap, ac.eval y]).run c.P e.w = .ok (.slice (some ⟨b, 0, none⟩) (es.length + xs.length) cap) (e.w.setRow b cs') := by
        rcases hsrc.kind with ⟨e', he'⟩ | he' <;> simp [Builtin.append_, run_und k1, run_und hk, run_size k2, hsrc.len, hfit, hsrc.cells, Addr.add_lit, hst]
      have hsize' : cs'.size = cs.size := by rw [← hcs']; simp; omega
      have hget : ∀ (m : Nat), m < es.length * ti.size → cs'[m]? = cs[m]? := fun m hmlt => by
        rw [← hcs']
        simp only [List.getElem?_toArray]
        rw [List.append_assoc, List.getElem?_append_left (by simp; omega), List.getElem?_take_of_lt hmlt]; simp
      obtain ⟨hsim, hle'⟩ := hs.grew (j := j) (b := b) (n := es.length) (n' := es.length + xs.length) (g := (es.length + xs.length) * ti.size) (w' := e.w.setRow b cs') ⟨rfl, rfl⟩ hj (by omega) (.inl ⟨hm, hbl⟩) (by rw [hg, Nat.add_mul]; omega) (by simp) (by simpa using hbl)
        (fun b' _ hne => setRow_other _ _ _ _ hne) (fun m hmlt => by
          rw [hg] at hmlt
          unfold World.cell?
          simp only [setRow_heap _ _ _ _ _ _ hh, hh]
          simpa using hget m hmlt) (fun b' hb' h => by subst h; simp at hb'; omega)
      rw [hrun]
      refine hn' _ _ _ k (hsim.put hd ?_)
      rw [Rep]
      refine ⟨_, _, _, rfl, by simp, hfit, (fun h => by cases h), fun q hq => ?_, fun ad had => ?_, by simpa [Env.grew] using hjl, ⟨es.length + xs.length, by rw [Env.grew_T hjl, if_pos rfl], by simp⟩, fun _ ad had => ?_⟩
      · rcases List.mem_append.1 hq with h | h
        · exact hsz q h
        · exact hxsz q h
      · simp only [Option.some.injEq] at had; subst had
        refine ⟨fun _ => rfl, ElemsAt.append (ElemsAt.mono hle' es hel) hsz (ElemsAt.flat.2 ?_)⟩
        refine CellsAt.of_values (cs := cs') (t := et) (fr := (0, 0)) (by simpa [Env.grew] using setRow_heap _ _ _ _ _ _ hh) (RepL.mono hle' _ hnw) hsrc.one (fun m q hm' => ?_) ?_
        · rw [← hcs']
          simp only [List.getElem?_toArray]
          have hml := lt_of_get? hm'
          rw [List.getElem?_append_left (by simp; omega), List.getElem?_append_right (by simp; omega)]
          rw [show 0 + es.length * ti.size + m - (cs.toList.take (es.length * ti.size)).length = m by simp; omega]
          exact hm'
        · simp only [Env.grew, if_true]; rw [hnl, Nat.add_mul]; omega
      · simp only [Option.some.injEq] at had; subst had
        exact ⟨rfl, by simp [Env.grew], by simp [Env.grew], cs', by simpa [Env.grew] using setRow_heap _ _ _ _ _ _ hh, by omega⟩
  · -- it does not: a new row
    obtain ⟨cap', cs, w', hrun, hw, hst, hle2, hcs, hcells, hall⟩ := run_append_row (P := c.P) (t := t) (cap := cap) hs.ok hf hk rfl (fun h => by have := hnil h; omega) hsz (fun ad h => ⟨fun h2 => (hc ad h).1 (by omega), (hc ad h).2⟩) hv (by omega) hb h63
    have hwsz : w'.heap.size = e.w.heap.size + 1 := by simp [hw]
    obtain ⟨hsim, hle'⟩ := hs.grew (j := j) (b := e.w.heap.size) (n := es.length) (n' := es.length + xs.length) (g := (es.length + xs.length) * sz) (w' := w') hst hj (by omega) (.inr rfl) (by rw [hs.ok.fresh _ (Nat.le_refl _)]; omega) (by simp [hw]) (by simp [hw])
      (fun b' hb' hne => by rw [hw, Array.getElem?_push, if_neg hne]) (fun m hmlt => by rw [hs.ok.fresh _ (Nat.le_refl _)] at hmlt; omega) (fun b' hb' h => by omega)
    rw [hrun]
    refine hn' _ _ _ k (hsim.put hd ?_)
    rw [Rep]
    refine ⟨_, _, _, rfl, by simp, hle2, (fun h => by cases h), hall, fun ad had => ?_, by simpa [Env.grew] using hjl, ⟨es.length + xs.length, by rw [Env.grew_T hjl, if_pos rfl], by simp⟩, fun _ ad had => ?_⟩
    · simp only [Option.some.injEq] at had; subst had
      refine ⟨fun _ => rfl, ElemsAt.flat.2 ?_⟩
      obtain ⟨vs, q1, q2, q3⟩ := hcells.values
      have hxt : Ext e (e.row ((es.length + xs.length) * sz) w') := Env.row_ext hs.ok hw hst
      have le3 : (e.row ((es.length + xs.length) * sz) w').Le (e.grew j e.w.heap.size (es.length + xs.length) ((es.length + xs.length) * sz) w') := by
        have hT : ∀ i, (e.row ((es.length + xs.length) * sz) w').T i = e.T i := fun i => rfl
        refine ⟨by simp [Env.grew, Env.row], fun i hi ht => ?_, fun b' off ho => ⟨ho, rfl⟩, fun i m ht => ?_⟩
        · rw [hT] at ht
          have hij : i ≠ j := fun h => by subst h; rw [hTj] at ht; cases ht
          rw [Env.grew_T hjl, if_neg hij]; exact ⟨ht, fun _ hb => by simpa [Env.grew, hij, Env.row] using hb⟩
        · rw [hT] at ht
          by_cases hij : i = j
          · subst hij
            have : m = es.length := by rw [hTj] at ht; exact (Option.some.inj ht).symm
            subst this
            exact ⟨_, by rw [Env.grew_T hjl, if_pos rfl], by omega, fun h => by omega⟩
          · exact ⟨m, by rw [Env.grew_T hjl, if_neg hij]; exact ht, Nat.le_refl _, fun _ => ⟨by simp [Env.grew, hij, Env.row], fun b' cs t _ hh => ⟨rfl, cs, hh, rfl⟩⟩⟩
      exact CellsAt.mono le3 _ hcells
    · simp only [Option.some.injEq] at had; subst had
      exact ⟨rfl, by simp [Env.grew], by simp [Env.grew], cs, by simp [Env.grew, hw], by simp [hcs]⟩
theorem push_tcells {e : Env} (ok : EnvOK e) {l : List AV} {cs : Array Value} {t : TypeId} (h : RepL e l cs.toList) (h1 : ∀ c ∈ cs.toList, isCell c = true) :
    ObjSim (e.push (.tcells t l) (.cells cs t)) e.H.length (.tcells t l) :=
  ⟨e.w.heap.size, cs, by simp [Env.push], ok.fresh _ (Nat.le_refl _), alloc_heap_new _ _, RepL.mono (Env.push_le ok _ _) l h, h1⟩
theorem sq_alloc_t {bt : TypeId} {l : List AV} (hd : dOK c.nt d = true) (hz : zeroOf c.P bt = some l)
    (k : SeqWP c ops Q (i + 1) rest (St.put { s with H := s.H ++ [.tcells bt l] } d (.ptr s.H.length 0))) : SeqWP c ops Q i (⟨d, .alloc bt, t, p, af, none⟩ :: rest) s := by
  obtain ⟨z, z1, z2, z3⟩ := zeroOf_run hz
  refine sq_run (by intro c h; cases h) hd (fun e ac hs => ?_) k
  refine ⟨.pointer (some ⟨e.w.heap.size, 0, none⟩), e.push (.tcells bt l) (.cells z.cells bt), ?_, hs.push (push_tcells hs.ok (by rw [z2]; exact RepL.raws _) z3), ?_⟩
  · simp [execOp, Instr.alloc, z1, run_newVar, Env.push]
  · have hT : tokOf ((s.H ++ [AObj.tcells bt l])[s.H.length]?) = none := by simp [tokOf]
    rw [Rep]; simp only [Env.push, Env.T, hs.H]
    exact ⟨by simp, hT, e.w.heap.size, by simp, rfl⟩
theorem pre_getT {H H' : List AObj} (h : HSub H H') {i : Nat} {t : TypeId} {l : List AV} (k : H[i]? = some (.tcells t l)) : H'[i]? = some (.tcells t l) := h i _ k (fun n e => by cases e)
theorem sim_tset {e : Env} {a : Act} (hs : Sim c s e a) {i b : Nat} {bt : TypeId} {l l' : List AV} {cs cs' : Array Value} (h : s.H[i]? = some (.tcells bt l)) (hb : e.μ i = some b) (hg : e.G b = 0)
    (hh : e.w.heap[b]? = some (.cells cs bt (0, 0))) (hl : RepL e l' cs'.toList) (h1 : ∀ c ∈ cs'.toList, isCell c = true) : Sim c { s with H := s.H.set i (.tcells bt l') } { e with H := e.H.set i (.tcells bt l'), w := e.w.setRow b cs' } a := by
  have h' : e.H[i]? = some (.tcells bt l) := by rw [hs.H]; exact h
  have hi := lt_of_get? h'
  obtain ⟨e', he'⟩ : ∃ e' : Env, e' = { e with H := e.H.set i (.tcells bt l'), w := e.w.setRow b cs' } := ⟨_, rfl⟩
  rw [← he']
  have hT : ∀ j, e'.T j = e.T j := fun j => by
    rw [he']; unfold Env.T; simp only
    by_cases hj : i = j
    · subst hj; rw [List.getElem?_set_self hi, h']; rfl
    · rw [List.getElem?_set_ne hj]
  have le : e.Le e' := by
    refine ⟨by rw [he']; simp, fun j _ ht => ⟨by rw [hT]; exact ht, fun _ hb => by rw [he']; exact hb⟩, fun b' off ho => ?_, fun j n ht => ⟨n, by rw [hT]; exact ht, Nat.le_refl _, fun _ => ?_⟩⟩
    · have hne : b' ≠ b := fun e1 => by subst e1; rw [hg] at ho; omega
      rw [he']; exact ⟨ho, cell?_of_heap (setRow_other _ _ _ _ hne)⟩
    · have hj : j < e.H.length := by
        rcases Nat.lt_or_ge j e.H.length with k | k
        · exact k
        · unfold Env.T at ht; rw [List.getElem?_eq_none k] at ht; simp [tokOf] at ht
      rw [he']
      refine ⟨rfl, fun b' cs' t hm hh => ⟨rfl, cs', ?_, rfl⟩⟩
      have hne : b' ≠ b := fun e1 => by
        subst e1
        have := hs.ok.inj i j b' hi hj hb hm
        subst this
        unfold Env.T at ht; rw [h'] at ht; simp [tokOf] at ht
      exact (setRow_other _ _ _ _ hne).trans hh
  refine ⟨hs.size, fun t => Rep.mono le _ (hs.slots t), hs.defers.mono le, by rw [he', hs.H], ⟨fun b' hb' => by rw [he'] at hb' ⊢; exact hs.ok.fresh b' (by simpa using hb'), fun j o ho => ?_, fun j k b' hj hk => by rw [he'] at hj hk ⊢; exact hs.ok.inj j k b' (by simpa using hj) (by simpa using hk), fun j b' hj hm => by
    rw [he'] at hj hm ⊢; have := hs.ok.live j b' (by simpa using hj) hm; simpa using this,
    hs.ok.tabs.of (by rw [he']; simp) (fun b' _ hn => by rw [he']; exact setRow_other _ _ _ _ fun e1 => by subst e1; exact hn i hi hb) fun j b' hj hm => .inr ⟨j, by rw [he'] at hj; simpa using hj, by rw [he'] at hm; exact hm⟩⟩, ⟨by rw [he']; simpa using hs.fr.size, by rw [he']; exact hs.fr.still.trans ⟨rfl, rfl⟩, fun b' hb' hn => ?_, fun j b' hj hm => by rw [he'] at hj hm; exact hs.fr.objs j b' (by simpa using hj) hm, hs.fr.le.trans le⟩⟩
  · by_cases hj : i = j
    · subst hj
      have : o = .tcells bt l' := by rw [he'] at ho; simp only [List.getElem?_set_self hi, Option.some.injEq] at ho; exact ho.symm
      subst this
      exact ⟨b, cs', by rw [he']; exact hb, by rw [he']; exact hg, by rw [he']; exact setRow_heap _ _ _ _ _ _ hh, RepL.mono le l' hl, h1⟩
    · have ho' : e.H[j]? = some o := by rw [he'] at ho; simpa only [List.getElem?_set_ne hj] using ho
      refine ObjSim.mono le (hs.ok.objs j o ho') (by rw [he']) (fun b' hb' => ?_)
      have hne : b' ≠ b := fun e1 => by subst e1; exact hj (hs.ok.inj i j b' hi (lt_of_get? ho') hb hb')
      rw [he']; exact ⟨setRow_other _ _ _ _ hne, rfl⟩
  · obtain ⟨h2, h3⟩ := hs.fr.heap b' hb' hn
    have hne : b' ≠ b := fun e1 => by
      subst e1
      rcases hs.fr.objs i b' hi hb with h4 | ⟨j, hj, h4⟩
      · omega
      · exact hn j hj h4
    rw [he']; exact ⟨(setRow_other _ _ _ _ hne).trans h2, h3⟩
theorem sq_store_t {st bt : TypeId} {x y : Operand} {a : AV} {j off n : Nat} {bb : Bool} {l m : List AV} (hd : dOK c.nt d = true)
    (hx : Less (s.op x) (.ptr j off)) (hy : Less (s.op y) a) (hm : a.cells = some m) (hj : s.H[j]? = some (.tcells bt l)) (ht : tySz c.P st = some (bb, n)) (hn : Nat.beq m.length n = true) (hle : Nat.ble (off + n) l.length = true)
    (k : SeqWP c ops Q (i + 1) rest (St.put { s with H := s.H.set j (.tcells bt (l.take off ++ m ++ l.drop (off + m.length))) } d .any)) : SeqWP c ops Q i (⟨d, .store st x y, t, p, af, none⟩ :: rest) s := by
  refine sq_op fun e ac hs next hn' => ?_
  have hn := Nat.eq_of_beq_eq_true hn
  have hle := Nat.le_of_ble_eq_true hle
  obtain ⟨h1, h2⟩ := rep_cells (hy e _ (hs.op y)) hm
  have hp := hx e _ (hs.op x)
  rw [Rep] at hp
  obtain ⟨a1, a2, b, hb, hpv⟩ := hp
  obtain ⟨b', cs, k1, k2, k3, k4, k5⟩ := hs.ok.objs j _ (by rw [hs.H]; exact hj)
  rw [hb] at k1; cases k1
  have hl1 := h1.length
  have hl4 := k4.length
  have hrun := run_storeVar (P := c.P) (w := e.w) (off := off) (v := ac.eval y) k3 ht (by simpa [hn] using hl1) (by simp at hl4; omega) h2
  have hsim := sim_tset hs (l' := l.take off ++ m ++ l.drop (off + m.length)) (cs' := (cs.toList.take off ++ (ac.eval y).cells.toList ++ cs.toList.drop (off + (ac.eval y).cells.toList.length)).toArray) hj hb k2 k3
    (by simpa using RepL.splice k4 h1 off) (by
      intro z hz
      simp only [List.mem_append] at hz
      rcases hz with (hz | hz) | hz
      · exact k5 z (List.mem_of_mem_take hz)
      · exact h2 z hz
      · exact k5 z (List.mem_of_mem_drop hz))
  refine ⟨about_FW _ _ _ _ _, ?_⟩
  show Oper.uponIn (FW c.r) 0 c.P _ ac next (lift c Q) (((Oper.semAt c.r ac.eval ⟨d, .store st x y, t, p, af, none⟩)).run c.P e.w)
  rw [semAt_of (by intro c h; cases h)]
  have : (execOp ac.eval ⟨d, .store st x y, t, p, af, none⟩).run c.P e.w = .ok .skip (e.w.setRow b (cs.toList.take off ++ (ac.eval y).cells.toList ++ cs.toList.drop (off + (ac.eval y).cells.toList.length)).toArray) := by
    simp [execOp, Instr.storeAt, hpv, Instr.sureAddr, hrun]
  rw [this]
  exact hn' _ _ _ k (hsim.put hd (by rw [Rep]; trivial))
end
section
variable [Tabs] {P : Program} {r : Option Nat} {H : List AObj} {ρ : Operand → AV}
variable {d : Option Tmp} {t : TypeId} {p : String} {af : Array Edge} {g : Option (Nat × Bool)} {x y : Operand}
theorem ev_load_t {i off : Nat} {bt : TypeId} {l : List AV} {v : AV} {lt : TypeId} {n : Nat} (hx : Less (ρ x) (.ptr i off)) (hH : H[i]? = some (.tcells bt l)) (ht : tySz P lt = some (false, n)) (hv : l[off]? = some v) :
    Ev P r ⟨d, .load lt x, t, p, af, g⟩ H ρ v :=
  Ev.pure (by intro c h; cases h) fun e ρc ok hE hs => by
    have := hx e _ (hs x (by simp [Op.operands]))
    rw [Rep] at this
    obtain ⟨a1, a2, b, hb, hpv⟩ := this
    obtain ⟨b', cs, k1, k2, k3, k4, k5⟩ := ok.objs i _ (pre_getT hE hH)
    rw [hb] at k1; cases k1
    obtain ⟨u, hu1, hu2⟩ := k4.get off v hv
    refine ⟨u, ?_, hu2⟩
    have hcell : e.w.cell? ⟨b, off, none⟩ = some u := by unfold World.cell?; simp only [k3]; simpa using hu1
    simp [execOp, Instr.loadAt, hpv, Instr.sureAddr, run_loadVar_one ht hcell]
theorem flat_one {α β : Type} : ∀ (l : List α) (f : α → β), (l.map fun c => [f c]).flatten = l.map f
  | [], _ => rfl
  | a :: l, f => by simp only [List.map_cons, List.flatten_cons, flat_one l f, List.cons_append, List.nil_append]
theorem ev_bytes_row {src dst et : TypeId} {l : List UInt8} (hsr : P.underlying src = some .string) (hds : P.underlying dst = some (.slice et)) (he : P.underlying et = some (.int .u8)) (hx : Less (ρ x) (S l)) :
    Ev P r ⟨d, .convert src dst x, t, p, af, g⟩ H ρ (.sl 1 (l.map fun c => [.raw (.int .u8 c.toNat)])) :=
  Ev.of_run (by intro c h; cases h) fun e ρc ok hE hs => by
    have hv := rep_raw hx (hs x (by simp [Op.operands]))
    have hrun := run_bytes_of_string (P := P) e.w src dst et ⟨l.toArray⟩ hsr hds he
    have hle := grownCap_ge e.w (⟨l.toArray⟩ : ByteArray).size 0 et
    rw [bs_size] at hrun hle
    generalize grownCap e.w l.length 0 et = cap at hrun hle
    have hval : RepL e (l.map fun c => AV.raw (.int .u8 c.toNat)) (l.map fun c => Value.int .u8 (c.toNat : Int)) := by
      rw [show (l.map fun c => AV.raw (.int .u8 (c.toNat : Int))) = (l.map fun c => Value.int .u8 (c.toNat : Int)).map AV.raw by simp]
      exact RepL.raws _
    have hlen : (l.map fun c => Value.int .u8 (c.toNat : Int)).length = l.length := by simp
    refine ⟨.slice (some ⟨e.w.heap.size, 0, none⟩) l.length cap, e.row (l.map fun c => Value.int .u8 (c.toNat : Int)).length (e.w.drew.alloc (.cells (bytesRow ⟨l.toArray⟩ cap) et ((bytesRow ⟨l.toArray⟩ cap).size, (bytesRow ⟨l.toArray⟩ cap).size + 1))), ?_, Env.row_ext ok rfl (by exact ⟨rfl, rfl⟩), ?_⟩
    · simp [execOp, hv, hrun, Result.andThen, Env.row]
    · rw [Rep]
      refine ⟨_, _, _, rfl, by simp, hle, (fun h => by cases h), fun q hq => by obtain ⟨c, _, rfl⟩ := List.mem_map.1 hq; rfl, fun ad had => ?_⟩
      simp only [Option.some.injEq] at had
      subst had
      refine ⟨fun _ => rfl, ElemsAt.flat.2 ?_⟩
      rw [flat_one l fun c => AV.raw (.int .u8 (c.toNat : Int))]
      refine cells_row ok (fr := ((bytesRow ⟨l.toArray⟩ cap).size, (bytesRow ⟨l.toArray⟩ cap).size + 1)) (et := et) rfl (by exact ⟨rfl, rfl⟩) hval (fun v hv => by obtain ⟨c, _, rfl⟩ := List.mem_map.1 hv; rfl) (fun j v hj => ?_)
      have hjl := lt_of_get? hj
      rw [hlen] at hjl
      have := bytesRow_at ⟨l.toArray⟩ cap j (by simpa using hjl)
      rw [this]
      simpa [hjl] using hj
end
section
variable [Tabs] {P : Program} {r : Option Nat} {H : List AObj} {ρ : Operand → AV}
variable {d : Option Tmp} {t : TypeId} {p : String} {af : Array Edge} {g : Option (Nat × Bool)} {x y : Operand}
theorem ev_nilCheck {i off : Nat} (hx : Less (ρ x) (.ptr i off)) : Ev P r ⟨d, .nilCheck x, t, p, af, g⟩ H ρ (.ptr i off) :=
  Ev.pure (by intro c h; cases h) fun e ρc ok hE hs => by
    have h := hx e _ (hs x (by simp [Op.operands]))
    refine ⟨ρc x, ?_, h⟩
    rw [Rep] at h
    obtain ⟨_, _, b, _, hv⟩ := h
    simp [execOp, hv]
theorem guard_ptr {op : BinOp} {xt : TypeId} {a b : Option Addr} {w : World} : (eqGuard op xt x y (.pointer a) (.pointer b)).run P w = .ok () w := by
  unfold eqGuard; split <;> simp
theorem ev_ptr_nil {xt yt : TypeId} (ht : P.underlying xt = some (.pointer (P.pointee xt))) (hx : Less (ρ x) (.raw (.pointer none))) (hy : Less (ρ y) (.raw (.pointer none))) : Ev P r ⟨d, .binOp .eql xt x y yt, t, p, af, g⟩ H ρ (.raw (.bool true)) :=
  Ev.pure (by intro c h; cases h) fun e ρc ok hE hs => by
    have h1 := rep_raw hx (hs x (by simp [Op.operands]))
    have h2 := rep_raw hy (hs y (by simp [Op.operands]))
    refine ⟨.bool true, ?_, by rw [Rep]⟩
    simp [execOp, h1, h2, guard_ptr, run_eql_pointer_nil _ xt none ht]
theorem ev_ptr_some {xt yt : TypeId} {i off : Nat} (ht : P.underlying xt = some (.pointer (P.pointee xt))) (hx : Less (ρ x) (.ptr i off)) (hy : Less (ρ y) (.raw (.pointer none))) : Ev P r ⟨d, .binOp .eql xt x y yt, t, p, af, g⟩ H ρ (.raw (.bool false)) :=
  Ev.pure (by intro c h; cases h) fun e ρc ok hE hs => by
    have h1 := hx e _ (hs x (by simp [Op.operands]))
    rw [Rep] at h1
    obtain ⟨_, _, b, _, h1⟩ := h1
    have h2 := rep_raw hy (hs y (by simp [Op.operands]))
    refine ⟨.bool false, ?_, by rw [Rep]⟩
    simp [execOp, h1, h2, guard_ptr, run_eql_pointer_nil _ xt _ ht]
theorem ev_ptr_same {xt yt te : TypeId} {ji : TypeInfo} {i off : Nat} (ht : P.underlying xt = some (.pointer te)) (hte : P.info? te = some ji) (hx : Less (ρ x) (.ptr i off)) (hy : Less (ρ y) (.ptr i off)) : Ev P r ⟨d, .binOp .neq xt x y yt, t, p, af, g⟩ H ρ (.raw (.bool false)) :=
  Ev.pure (by intro c h; cases h) fun e ρc ok hE hs => by
    have h1 := hx e _ (hs x (by simp [Op.operands]))
    rw [Rep] at h1
    obtain ⟨_, _, b, hb, h1⟩ := h1
    have h2 := hy e _ (hs y (by simp [Op.operands]))
    rw [Rep] at h2
    obtain ⟨_, _, b', hb', h2⟩ := h2
    rw [hb] at hb'; cases hb'
    refine ⟨.bool false, ?_, by rw [Rep]⟩
    simp [execOp, h1, h2, guard_ptr, Lib.run_neq_ptr_same _ _ ht hte]
theorem ev_toUnsafe {src dst tt bt : TypeId} {ji : TypeInfo} {i : Nat} {l : List AV} (h1 : P.underlying src = some (.pointer tt)) (h2 : P.underlying dst = some .unsafePointer) (h3 : P.info? tt = some ji) (h4 : ji.size ≠ 0)
    (hx : Less (ρ x) (.ptr i 0)) (hH : H[i]? = some (.tcells bt l)) (hl : 0 < l.length) : Ev P r ⟨d, .convert src dst x, t, p, af, g⟩ H ρ (.ptr i 0) :=
  Ev.pure (by intro c h; cases h) fun e ρc ok hE hs => by
    have h := hx e _ (hs x (by simp [Op.operands]))
    refine ⟨ρc x, ?_, h⟩
    rw [Rep] at h
    obtain ⟨_, _, b, hb, hv⟩ := h
    obtain ⟨b', cs, k1, k2, k3, k4, k5⟩ := ok.objs i _ (pre_getT hE hH)
    rw [hb] at k1; cases k1
    have hsh : e.w.shape? b = some (bt, cs.size) := by unfold World.shape?; simp only [k3]
    have hsz : 0 < cs.size := by have := k4.length; simp at this; omega
    simp [execOp, hv, Lib.run_to_unsafe e.w ⟨b, 0, none⟩ h1 h2 h3 h4 hsh hsz]
theorem ev_fromUnsafe {src dst u bt : TypeId} {ji : TypeInfo} {i : Nat} {l : List AV} (h1 : P.underlying src = some .unsafePointer) (h2 : P.underlying dst = some (.pointer u)) (h3 : P.info? u = some ji)
    (hx : Less (ρ x) (.ptr i 0)) (hH : H[i]? = some (.tcells bt l)) (hl : liesAt P P.depth bt (l.length / P.cellsOf bt) 0 u 1 = true) : Ev P r ⟨d, .convert src dst x, t, p, af, g⟩ H ρ (.ptr i 0) :=
  Ev.pure (by intro c h; cases h) fun e ρc ok hE hs => by
    have h := hx e _ (hs x (by simp [Op.operands]))
    refine ⟨ρc x, ?_, h⟩
    rw [Rep] at h
    obtain ⟨_, _, b, hb, hv⟩ := h
    obtain ⟨b', cs, k1, k2, k3, k4, k5⟩ := ok.objs i _ (pre_getT hE hH)
    rw [hb] at k1; cases k1
    have hsz : l.length = cs.size := by have := k4.length; simp at this; omega
    have hsh : e.w.shape? b = some (bt, cs.size) := by unfold World.shape?; simp only [k3]
    simp [execOp, hv, Lib.run_from_unsafe e.w ⟨b, 0, none⟩ h1 h2 h3 hsh (by rw [← hsz]; exact hl)]
theorem ev_same {f : FuncId} {z : Operand} {ats : Array TypeId} {v : AV} (hf : ∀ a (w : World), (callFunc f #[a]).run P w = .ok (.value a) w) (hx : Less (ρ x) (.fn (.func f) [] [])) (hz : Less (ρ z) v) :
    Ev P r ⟨d, .call ⟨.value x, #[z], ats⟩, t, p, af, g⟩ H ρ v :=
  Ev.pure (by intro c h; cases h) fun e ρc ok hE hs => by
    have h := hx e _ (hs x (by simp [Op.operands, Call.operands]))
    rw [Rep] at h
    obtain ⟨a1, a2, hv, h1, h2⟩ := h
    rw [RepL] at h1 h2
    have e1 : a1 = #[] := by simpa using h1
    have e2 : a2 = #[] := by simpa using h2
    subst e1; subst e2
    refine ⟨ρc z, ?_, hz e _ (hs z (by simp [Op.operands, Call.operands]))⟩
    simp [execOp, resolve, hv, Deferred.ofValue, invoke, hf]
theorem ev_len_ownb {xt et et' : TypeId} {sz sz' j : Nat} {es : List (List AV)} (ht : slElem P xt = some (et, sz)) (hx : Less (ρ x) (.ownb j sz' et' es)) :
    Ev P r ⟨d, .call ⟨.builtin .len, #[x], #[xt]⟩, t, p, af, g⟩ H ρ (.raw (.int .i64 es.length)) :=
  Ev.pure (by intro c h; cases h) fun e ρc ok hE hs => by
    obtain ⟨h1, _⟩ := slElem_und ht
    have := hx e _ (hs x (by simp [Op.operands, Call.operands]))
    rw [Rep] at this
    obtain ⟨a, len, cap, hv, hlen, _⟩ := this
    exact ⟨.int .i64 es.length, by simp [execOp, resolve, invoke, builtin, Builtin.len_, run_und h1, hv, goInt, hlen], by rw [Rep]⟩
theorem ev_len_ownb_map {α : Type} {xt et et' : TypeId} {sz sz' j : Nat} {l : List α} {f : α → List AV} (ht : slElem P xt = some (et, sz)) (hx : Less (ρ x) (.ownb j sz' et' (l.map f))) :
    Ev P r ⟨d, .call ⟨.builtin .len, #[x], #[xt]⟩, t, p, af, g⟩ H ρ (.raw (.int .i64 l.length)) := by
  have := ev_len_ownb (P := P) (r := r) (H := H) (ρ := ρ) (d := d) (t := t) (p := p) (af := af) (g := g) ht hx
  rwa [List.length_map] at this
theorem ev_unsafeData {j : Nat} {et st : TypeId} {es : List (List AV)} (hx : Less (ρ x) (.ownb j 1 et es)) (hne : es ≠ []) : Ev P r ⟨d, .call ⟨.builtin .unsafeSliceData, #[x], #[st]⟩, t, p, af, g⟩ H ρ (.uptr j es.length) :=
  Ev.pure (by intro c h; cases h) fun e ρc ok hE hs => by
    have h := hx e _ (hs x (by simp [Op.operands, Call.operands]))
    rw [Rep] at h
    obtain ⟨a, len, cap, hv, hlen, hle, hnil, hsz, hc, h7, h8, h9⟩ := h
    have hpos : 0 < es.length := List.length_pos_iff.2 hne
    cases a with
    | none => have := hnil rfl; omega
    | some ad =>
      refine ⟨.pointer (some ad), ?_, ?_⟩
      · simp [execOp, resolve, invoke, builtin, hv, Lib.run_unsafeSliceData_row e.w #[st] t ad len cap (by omega)]
      · rw [Rep]
        refine ⟨h7, h8, fun hT => ?_⟩
        obtain ⟨q1, q2, _⟩ := h9 hT ad rfl
        have q3 := (hc ad rfl).1
        refine ⟨ad.block, q2, ?_⟩
        obtain ⟨b, off, sp⟩ := ad
        simp only at q1 q3; subst q1; have q3 := q3 (by omega); subst q3; rfl
theorem ev_unsafeData_map {α : Type} {j : Nat} {et st : TypeId} {l : List α} {f : α → List AV} (hx : Less (ρ x) (.ownb j 1 et (l.map f))) (hne : l ≠ []) : Ev P r ⟨d, .call ⟨.builtin .unsafeSliceData, #[x], #[st]⟩, t, p, af, g⟩ H ρ (.uptr j l.length) := by
  have := ev_unsafeData (P := P) (r := r) (H := H) (ρ := ρ) (d := d) (t := t) (p := p) (af := af) (g := g) (st := st) hx (fun h => hne (List.map_eq_nil_iff.1 h))
  rwa [List.length_map] at this
end
section
variable [Tabs] {c : Ctx} {ops : Array Oper} {Q : AExit → St → Prop} {rest : List Oper} {s : St} {i : Nat}
variable {d : Option Tmp} {t : TypeId} {p : String} {af : Array Edge}
theorem freeze_heap {w : World} {b n : Nat} {cs : Array Value} {et : TypeId} (hn : n ≠ 0) (h : w.heap[b]? = some (.cells cs et (0, 0))) : (w.freeze ⟨b, 0, none⟩ n).heap[b]? = some (.cells cs et (0, n)) := by
  have hlt := lt_of_heap h
  unfold World.freeze
  rw [if_neg hn]
  simp only [Array.getElem?_modify, if_true, h, Option.map_some]
  simp
theorem freeze_other {w : World} {b n b' : Nat} (hne : b' ≠ b) : (w.freeze ⟨b, 0, none⟩ n).heap[b']? = w.heap[b']? := by
  unfold World.freeze
  split
  · rfl
  · simp only [Array.getElem?_modify, if_neg (Ne.symm hne)]
theorem freeze_size {w : World} {b n : Nat} : (w.freeze ⟨b, 0, none⟩ n).heap.size = w.heap.size := by
  unfold World.freeze
  split
  · rfl
  · simp
theorem sim_freeze {e : Env} {a : Act} (hs : Sim c s e a) {j b n m m' : Nat} {cs : Array Value} {et : TypeId} (hj : s.H[j]? = some (.tok m)) (hm : m < m') (hb : e.μ j = some b) (hn : n ≠ 0) (hh : e.w.heap[b]? = some (.cells cs et (0, 0))) :
    e.Le { e with H := e.H.set j (.tok m'), w := e.w.freeze ⟨b, 0, none⟩ n } ∧ Sim c { s with H := s.H.set j (.tok m') } { e with H := e.H.set j (.tok m'), w := e.w.freeze ⟨b, 0, none⟩ n } a := by
  have hj' : e.H[j]? = some (.tok m) := by rw [hs.H]; exact hj
  have hjl := lt_of_get? hj'
  have hTj : e.T j = some m := by unfold Env.T; rw [hj']; rfl
  have hnew := freeze_heap hn hh
  obtain ⟨e', he'⟩ : ∃ e' : Env, e' = { e with H := e.H.set j (.tok m'), w := e.w.freeze ⟨b, 0, none⟩ n } := ⟨_, rfl⟩
  rw [← he']
  have hT : ∀ i, e'.T i = if i = j then some m' else e.T i := fun i => by
    rw [he']; unfold Env.T; simp only
    by_cases h : i = j
    · subst h; rw [List.getElem?_set_self hjl, if_pos rfl]; rfl
    · rw [if_neg h, List.getElem?_set_ne (Ne.symm h)]
  have hoth : ∀ b', b' ≠ b → e'.w.heap[b']? = e.w.heap[b']? := fun b' h => by rw [he']; exact freeze_other h
  have hne : ∀ i, i < e.H.length → i ≠ j → e.μ i ≠ some b := fun i hi hij h => hij (hs.ok.inj i j b hi hjl h hb)
  have hcell : ∀ b' off, e'.w.cell? ⟨b', off, none⟩ = e.w.cell? ⟨b', off, none⟩ := fun b' off => by
    by_cases h : b' = b
    · subst h
      unfold World.cell?
      rw [he']; simp only [hnew, hh]
    · exact cell?_of_heap (hoth b' h)
  have hsz : e'.w.heap.size = e.w.heap.size := by rw [he']; exact freeze_size
  have le : e.Le e' := by
    refine ⟨by rw [he']; simp, fun i _ ht => ?_, fun b' off ho => ⟨by rw [he']; exact ho, hcell b' off⟩, fun i q ht => ?_⟩
    · have hij : i ≠ j := fun h => by subst h; rw [hTj] at ht; cases ht
      rw [hT, if_neg hij]; exact ⟨ht, fun _ h => by rw [he']; exact h⟩
    · have hi : i < e.H.length := by
        rcases Nat.lt_or_ge i e.H.length with k | k
        · exact k
        · unfold Env.T at ht; rw [List.getElem?_eq_none k] at ht; simp [tokOf] at ht
      by_cases hij : i = j
      · subst hij
        have : q = m := by rw [hTj] at ht; exact (Option.some.inj ht).symm
        subst this
        exact ⟨m', by rw [hT, if_pos rfl], by omega, fun h => by omega⟩
      · refine ⟨q, by rw [hT, if_neg hij]; exact ht, Nat.le_refl _, fun _ => ⟨by rw [he'], fun b' cs' t hm hh' => ⟨by rw [he'], cs', ?_, rfl⟩⟩⟩
        exact (hoth b' fun h => by subst h; exact hne i hi hij hm).trans hh'
  refine ⟨le, hs.size, fun t => Rep.mono le _ (hs.slots t), hs.defers.mono le, by rw [he', hs.H], ⟨fun b' hb' => by rw [hsz] at hb'; rw [he']; exact hs.ok.fresh b' hb', fun i o ho => ?_, fun i k b' hi hk h1 h2 => ?_, fun i b' hi h1 => ?_,
    hs.ok.tabs.of (by omega) (fun b' _ hn => hoth b' fun h => by subst h; exact hn j hjl hb) fun i b' hi h1 => .inr ⟨i, by rw [he'] at hi; simpa using hi, by rw [he'] at h1; exact h1⟩⟩,
    ⟨by have := hs.fr.size; omega, by rw [he']; exact hs.fr.still.trans (by unfold World.freeze; split <;> exact ⟨rfl, rfl⟩), fun b' hb' hno => ?_, fun i b' hi h1 => by rw [he'] at hi h1; exact hs.fr.objs i b' (by simpa using hi) h1, hs.fr.le.trans le⟩⟩
  · by_cases hij : j = i
    · subst hij
      have : o = .tok m' := by rw [he'] at ho; simp only [List.getElem?_set_self hjl, Option.some.injEq] at ho; exact ho.symm
      subst this; trivial
    · have ho' : e.H[i]? = some o := by rw [he'] at ho; simpa only [List.getElem?_set_ne hij] using ho
      exact ObjSim.mono le (hs.ok.objs i o ho') (by rw [he']) fun b' hb' => ⟨hoth b' fun h => by subst h; exact hne i (lt_of_get? ho') (Ne.symm hij) hb', by rw [he']⟩
  · rw [he'] at hi hk h1 h2; exact hs.ok.inj i k b' (by simpa using hi) (by simpa using hk) h1 h2
  · rw [hsz]; rw [he'] at hi h1; exact hs.ok.live i b' (by simpa using hi) h1
  · obtain ⟨h1, h2⟩ := hs.fr.heap b' hb' hno
    have hbb : b' ≠ b := fun h => by
      subst h
      rcases hs.fr.objs j b' hjl hb with h3 | ⟨k, hk, h3⟩
      · omega
      · exact hno k hk h3
    exact ⟨(hoth b' hbb).trans h1, by rw [he']; exact h2⟩
theorem get_map_u8 {l : List UInt8} {e : Env} {b : Nat} (h : ElemsAt e (l.map fun c => [AV.raw (.int .u8 (c.toNat : Int))]) b 0) (j : Nat) (x : UInt8) (hx : l[j]? = some x) : e.w.cell? ⟨b, j, none⟩ = some (.int .u8 x.toNat) := by
  have h1 := ElemsAt.flat.1 h
  rw [flat_one l fun c => AV.raw (.int .u8 (c.toNat : Int))] at h1
  obtain ⟨_, v, h2, h3, _⟩ := CellsAt.get j (.raw (.int .u8 x.toNat)) h1 (by rw [List.getElem?_map, hx]; rfl)
  rw [Rep] at h3
  rw [Nat.zero_add] at h2
  rw [h2, h3]
theorem sq_unsafeString {x y : Operand} {k f j : Nat} {bt et pt it : TypeId} {l : List UInt8} {L : List AV} (hd : dOK c.nt d = true) (hx : Less (s.op x) (.uptr j l.length)) (hy : Less (s.op y) (.raw (.int .i64 l.length))) (hne : l ≠ [])
    (hk : s.H[k]? = some (.tcells bt L)) (hf : L[f]? = some (.ownb j 1 et (l.map fun c => [.raw (.int .u8 c.toNat)]))) (hj : s.H[j]? = some (.tok l.length)) (hp : c.P.underlying pt = some (.pointer et)) (hc : c.P.cellsOf et = 1) (h63 : l.length ≤ 9223372036854775807)
    (kk : SeqWP c ops Q (i + 1) rest (St.put { s with H := s.H.set j (.tok (l.length + 1)) } d (S l))) : SeqWP c ops Q i (⟨d, .call ⟨.builtin .unsafeString, #[x, y], #[pt, it]⟩, t, p, af, none⟩ :: rest) s := by
  refine sq_op fun e ac hs next hn' => ?_
  have hu := hx e _ (hs.op x)
  rw [Rep] at hu
  obtain ⟨u1, _, u3⟩ := hu
  have hTj : e.T j = some l.length := by unfold Env.T; rw [hs.H, hj]; rfl
  obtain ⟨b, hb, hpv⟩ := u3 hTj
  have hyv := rep_raw hy (hs.op y)
  obtain ⟨bk, cs, k1, k2, k3, k4, k5⟩ := hs.ok.objs k _ (by rw [hs.H]; exact hk)
  obtain ⟨v, hv, hr⟩ := k4.get f _ hf
  rw [Rep] at hr
  obtain ⟨a, len, cap, hva, hlen, hle, hnil, hsz, hcc, h7, h8, h9⟩ := hr
  rw [List.length_map] at hlen h9
  have hpos : 0 < l.length := List.length_pos_iff.2 hne
  cases a with
  | none => have := hnil rfl; omega
  | some ad =>
    obtain ⟨q1, q2, q3, cs', q4, q5⟩ := h9 hTj ad rfl
    obtain ⟨hsp, hel⟩ := hcc ad rfl
    rw [hb] at q2; cases q2
    rw [q1] at hel
    have hsh : e.w.shape? ad.block = some (et, cs'.size) := by unfold World.shape?; simp only [q4]
    have hrun := Lib.run_unsafeString_row (P := c.P) e.w pt it t et hp hc ad.block cs'.size hsh l hne (by omega) h63 (fun m x hm => by
      rw [Addr.add_lit, Nat.zero_add]
      exact get_map_u8 hel m x hm)
    obtain ⟨le, hs'⟩ := sim_freeze hs (n := l.length) (m' := l.length + 1) hj (by omega) hb (by omega) q4
    refine ⟨about_FW _ _ _ _ _, ?_⟩
    show Oper.uponIn (FW c.r) 0 c.P _ ac next (lift c Q) (((Oper.semAt c.r ac.eval ⟨d, .call ⟨.builtin .unsafeString, #[x, y], #[pt, it]⟩, t, p, af, none⟩)).run c.P e.w)
    rw [semAt_of (by intro c h; cases h)]
    have : (execOp ac.eval ⟨d, .call ⟨.builtin .unsafeString, #[x, y], #[pt, it]⟩, t, p, af, none⟩).run c.P e.w = .ok (.value (.string ⟨l.toArray⟩)) (e.w.freeze ⟨ad.block, 0, none⟩ l.length) := by
      simp [execOp, resolve, invoke, builtin, hpv, hyv, hrun]
    rw [this]
    exact hn' _ _ _ kk (hs'.put hd (by rw [Rep]))
theorem eff_unsafeString {H : List AObj} {df : List ADef} {ρ : Operand → AV} {x y : Operand} {k f j : Nat} {bt et pt it : TypeId} {l : List UInt8} {L : List AV} (hd : dOK c.nt d = true) (hx : Less (ρ x) (.uptr j l.length)) (hy : Less (ρ y) (.raw (.int .i64 l.length))) (hne : l ≠ [])
    (hk : H[k]? = some (.tcells bt L)) (hf : L[f]? = some (.ownb j 1 et (l.map fun c => [.raw (.int .u8 c.toNat)]))) (hj : H[j]? = some (.tok l.length)) (hp : c.P.underlying pt = some (.pointer et)) (hc : c.P.cellsOf et = 1) (h63 : l.length ≤ 9223372036854775807) :
    Eff c Q ⟨d, .call ⟨.builtin .unsafeString, #[x, y], #[pt, it]⟩, t, p, af, none⟩ H df ρ (S l) (H.set j (.tok (l.length + 1))) :=
  eff_of rfl fun s hH hop Q kk => by
    subst hH
    exact sq_unsafeString hd (by rw [hop x (by simp [Op.operands, Call.operands])]; exact hx) (by rw [hop y (by simp [Op.operands, Call.operands])]; exact hy) hne hk hf hj hp hc h63 kk
theorem sub_bld {k : Nat} {bt et : TypeId} {a : AV} (hk : s.H[k]? = some (.tcells bt [a, .raw (.slice none 0 0)])) : Sub c s { s with H := s.H.set k (.tcells bt [a, .ownb s.H.length 1 et []]) ++ [.tok 0] } := by
  intro e ac hs
  obtain ⟨e1, w1, g1, le1, H1, m1, hs1⟩ := sim_tok hs 0
  have hkl := lt_of_get? hk
  have hk1 : ({ s with H := s.H ++ [.tok 0] } : St).H[k]? = some (.tcells bt [a, .raw (.slice none 0 0)]) := by simp only; rw [List.getElem?_append_left hkl]; exact hk
  have hset : (s.H ++ [AObj.tok 0]).set k (.tcells bt [a, .ownb s.H.length 1 et []]) = s.H.set k (.tcells bt [a, .ownb s.H.length 1 et []]) ++ [.tok 0] := List.set_append_left _ _ hkl
  rw [← hset]
  refine ⟨{ e1 with H := (s.H ++ [AObj.tok 0]).set k (.tcells bt [a, .ownb s.H.length 1 et []]) }, w1, sim_reH hs1 (by simp) (fun i => ?_) fun e' he' le i o hi => ?_⟩
  · by_cases h : k = i
    · subst h; rw [List.getElem?_set_self (by simp; omega)]; simp only at hk1 ⊢; rw [hk1]; rfl
    · rw [List.getElem?_set_ne h]
  · by_cases h : k = i
    · subst h
      rw [List.getElem?_set_self (by simp; omega)] at hi
      cases hi
      obtain ⟨b, cs, k1, k2, k3, k4, k5⟩ := hs1.ok.objs k _ (by rw [hs1.H]; exact hk1)
      have h4 := RepL.mono le _ k4
      rw [RepL] at h4
      obtain ⟨v, r, hv, h5, h6⟩ := h4
      rw [RepL] at h6
      obtain ⟨v2, r2, hv2, h7, h8⟩ := h6
      rw [Rep] at h7
      refine ⟨b, cs, by rw [he']; exact k1, by rw [he']; exact k2, by rw [he']; exact k3, ?_, k5⟩
      rw [hv, hv2, h7]
      refine RepL.cons h5 (RepL.cons ?_ h8)
      rw [Rep]
      have hT : e'.T s.H.length = some 0 := by
        rw [he']; unfold Env.T; simp only
        rw [List.getElem?_set_ne (by omega), List.getElem?_append_right (Nat.le_refl _)]; simp [tokOf]
      exact ⟨none, 0, 0, rfl, rfl, Nat.le_refl _, fun _ => rfl, by simp, fun ad h => (by cases h), by rw [he']; simp, ⟨0, hT, Nat.le_refl _⟩, fun _ ad h => (by cases h)⟩
    · rw [List.getElem?_set_ne h] at hi
      exact ObjSim.mono le (hs1.ok.objs i o (by rw [hs1.H]; exact hi)) (by rw [he']) fun b _ => by rw [he']; exact ⟨rfl, rfl⟩
end
end Go.Ab
namespace Go.Ab
variable [Tabs]
section
variable {c : Ctx} {ops : Array Oper} {Q : AExit → St → Prop} {s : St} {i : Nat}
theorem sq_nilSub {s' : St} (h : Sub c s s') (q : Q .normal s') : SeqWP c ops Q i [] s := fun _ e a hs =>
  let ⟨e', hw, hs'⟩ := h e a hs
  ⟨.normal, s', e', q, hw, hs', rfl⟩
theorem sq_sub {l : List Oper} {s' : St} (h : Sub c s s') (k : SeqWP c ops Q i l s') : SeqWP c ops Q i l s := fun hd e a hs =>
  let ⟨e', hw, hs'⟩ := h e a hs
  hw ▸ k hd e' a hs'
section
variable {rest : List Oper} {d : Option Tmp} {t : TypeId} {p : String} {af : Array Edge} {sl : List (Nat × AV)} {A X : List AObj} {df : List ADef}
theorem sq_storeE {st : TypeId} {x y : Operand} {a : AV} {n : Nat} {bb : Bool} {l m : List AV} (hd : dOK c.nt d = true) (hdn : d = none)
    (hx : Less ((⟨sl, A ++ (X ++ [.cells l]), df⟩ : St).op x) (.ptr (A.length + X.length) 0)) (hy : Less ((⟨sl, A ++ (X ++ [.cells l]), df⟩ : St).op y) a) (hm : a.cells = some m) (ht : tySz c.P st = some (bb, n)) (hn : Nat.beq m.length n = true) (hl : Nat.beq l.length n = true)
    (k : SeqWP c ops Q (i + 1) rest ⟨sl, A ++ (X ++ [.cells m]), df⟩) : SeqWP c ops Q i (⟨d, .store st x y, t, p, af, none⟩ :: rest) ⟨sl, A ++ (X ++ [.cells l]), df⟩ := by
  subst hdn
  have hn' := Nat.eq_of_beq_eq_true hn
  have hl' := Nat.eq_of_beq_eq_true hl
  refine sq_store (j := A.length + X.length) (off := 0) (l := l) hd hx hy hm (by simp only; rw [← List.append_assoc, List.getElem?_append_right (by simp)]; simp) ht hn (by rw [hl']; simp) ?_
  have : (A ++ (X ++ [AObj.cells l])).set (A.length + X.length) (.cells (l.take 0 ++ m ++ l.drop (0 + m.length))) = A ++ (X ++ [.cells m]) := by
    rw [← List.append_assoc, List.set_append_right _ _ (by simp), List.length_append, Nat.sub_self, List.set_cons_zero, List.take_zero, Nat.zero_add, hn', ← hl', List.drop_length]; simp
  show SeqWP c ops Q (i + 1) rest ⟨sl, (A ++ (X ++ [AObj.cells l])).set (A.length + X.length) (.cells (l.take 0 ++ m ++ l.drop (0 + m.length))), df⟩
  rw [this]; exact k
theorem sq_frz (ks : List Nat) (u : Nat) {l : List Oper} {m : List AV} (hu : sget sl u = .ptr (A.length + X.length) 0)
    (k : SeqWP c ops Q i l ⟨(u, .iptr m) :: keepS sl ks, A ++ (X ++ [.dead]), df⟩) : SeqWP c ops Q i l ⟨sl, A ++ (X ++ [.cells m]), df⟩ := by
  have h := sub_iptrK (c := c) (s := ⟨sl, A ++ (X ++ [.cells m]), df⟩) ks u (j := A.length + X.length) (l := m) hu (by simp only; rw [← List.append_assoc, List.getElem?_append_right (by simp)]; simp)
  have e : (A ++ (X ++ [AObj.cells m])).set (A.length + X.length) .dead = A ++ (X ++ [.dead]) := by
    rw [← List.append_assoc, List.set_append_right _ _ (by simp), List.length_append, Nat.sub_self, List.set_cons_zero]; simp
  simp only [e] at h
  exact sq_sub h k
end
theorem keepS_skip {p : Nat} {x : AV} {sl : List (Nat × AV)} {ks : List Nat} (h : ∀ u ∈ ks, u ≠ p) : keepS ((p, x) :: sl) ks = keepS sl ks := by
  unfold keepS
  refine List.map_congr_left fun u hu => ?_
  have : (p == u) = false := by simpa using (h u hu).symm
  simp [sget, this]
/-- **A range over a function, outermost, whose variable lies in a box** that is written no more. -/
theorem aw_rangeFuncB (ks : List Nat) {g : Operand} {p q id bt st : Nat} {ty ty2 : TypeId} {pos pos2 : String} {af af2 : Array Edge} {d : Option Nat} {body : Code} {f : FuncId} {first caps xs : List AV} {cl : AV → List AV} {n : Nat} {bb : Bool} {z : List AV} (T : Nat → List AObj) (m : Nat) (jump : Option Code)
    (hm : m ≤ xs.length) (hj : jump = none → m = xs.length) (hj' : jump ≠ none → 0 < m) (hjo : jumpOK jump = true) (hr : c.r = none) (hg : Less (s.op g) (.fn (.func f) first caps)) (he : Ent c.P f) (hit : AIter c.P f first caps xs)
    (hT0 : T 0 = s.H) (hlen : ∀ i, (T i).length = s.H.length) (hin : ∀ i, i ≤ m → objsIn s.H.length (T i) = true) (hpx : ∀ x ∈ xs, x.pureB = true) (hp : Nat.blt p c.nt = true) (hq : Nat.blt q c.nt = true) (hpq : q ≠ p) (hd : dOK c.nt d = true) (hdn : d = none)
    (hz : zeroOf c.P bt = some z) (hzl : Nat.beq z.length n = true) (ht : tySz c.P st = some (bb, n)) (hcl : ∀ x ∈ xs, x.cells = some (cl x) ∧ (cl x).length = n ∧ AV.inL s.H.length (cl x) = true)
    (hks : ∀ u ∈ ks, u ≠ p ∧ u ≠ q) (hsl : slotsIn s.H.length (keepS s.sl ks) = true)
    (hb : ∀ l i x e0, i < m → xs[i]? = some x → e0.H = T i → AWP ⟨c.P, some l, c.nt, e0⟩ body (fun ax s' => (∃ Y, s'.H = T (i + 1) ++ Y) ∧ s'.df = [] ∧ jumpEx (if i + 1 = m then jump else none) ax) ⟨(q, .iptr (cl x)) :: keepS s.sl ks, T i, []⟩)
    (k : ∀ ax, jumpEx jump ax → Q ax ⟨s.sl, T m ++ [.raw (.deferred (some []))], .mark s.H.length :: s.df⟩) :
    AWP c (.rangeFunc g #[p] (.region id [⟨some q, .alloc bt, ty, pos, af, none⟩, ⟨d, .store st (.tmp q) (.tmp p), ty2, pos2, af2, none⟩].toArray false) body) Q s := by
  subst hdn
  refine aw_rangeFunc T m jump (fun _ x => (q, .iptr (cl x)) :: keepS s.sl ks) hm hj hj' hjo hr hg he hit hT0 hlen hin hpx hp ?_ hb k
  intro l i x e0 hi hx he0
  obtain ⟨hc1, hc2, hc3⟩ := hcl x (List.mem_of_getElem? hx)
  have hzn : z.length = n := Nat.eq_of_beq_eq_true hzl
  have hqp : (q == p) = false := by simpa using hpq
  refine aw_region ?_
  refine sq_alloc (by simpa [dOK] using hq) hz ?_
  refine sq_store (a := x) (j := (T i).length) (off := 0) (n := n) (m := cl x) hd (Less.eq (by simp [St.op, St.put, sget])) (Less.eq (by simp [St.op, St.put, sget, hqp])) hc1 (l := z) (by simp [St.put]) ht (by rw [hc2]; exact Nat.beq_refl n) (by rw [hzn]; simp) ?_
  have hH : (T i ++ [AObj.cells z]).set (T i).length (.cells (z.take 0 ++ cl x ++ z.drop (0 + (cl x).length))) = T i ++ [.cells (cl x)] := by
    rw [List.set_append_right _ _ (Nat.le_refl _), Nat.sub_self, List.set_cons_zero, List.take_zero, Nat.zero_add, hc2, ← hzn, List.drop_length]; simp
  refine sq_nilSub (s' := ⟨(q, .iptr (cl x)) :: keepS s.sl ks, T i, []⟩) ?_ ⟨rfl, rfl⟩
  have h1 := sub_iptrK (c := ⟨c.P, some l, c.nt, e0⟩) (s := ⟨(q, .ptr (T i).length 0) :: (p, x) :: s.sl, T i ++ [.cells (cl x)], []⟩) ks q (j := (T i).length) (l := cl x) (by simp [sget]) (by simp)
  have hk : keepS ((q, AV.ptr (T i).length 0) :: (p, x) :: s.sl) ks = keepS s.sl ks := by
    rw [keepS_skip fun u hu => (hks u hu).2, keepS_skip fun u hu => (hks u hu).1]
  rw [hk] at h1
  have h2 := Sub.cut (c := ⟨c.P, some l, c.nt, e0⟩) (s := ⟨(q, .iptr (cl x)) :: keepS s.sl ks, (T i ++ [AObj.cells (cl x)]).set (T i).length .dead, []⟩) (n := s.H.length) (H' := T i)
    (by simp only; rw [List.set_append_right _ _ (Nat.le_refl _)]; exact List.take_left' (hlen i))
    (by simp only [slotsIn, Bool.and_eq_true, AV.inB]; exact ⟨hc3, hsl⟩) (hin i (by omega)) (by simp [he0])
  have h3 := h1.trans h2
  have h4 : (T i ++ [AObj.cells z]).set (T i).length (.cells (z.take 0 ++ cl x ++ z.drop (0 + (cl x).length))) = T i ++ [.cells (cl x)] := hH
  show Sub _ ⟨(q, .ptr (T i).length 0) :: (p, x) :: s.sl, (T i ++ [AObj.cells z]).set (T i).length (.cells (z.take 0 ++ cl x ++ z.drop (0 + (cl x).length))), []⟩ _
  rw [h4]
  exact h3
theorem sub_token_row {c : Ctx} {s : St} (b sz n : Nat) (hb : s.H[b]? = some (.cells (List.replicate n (.raw (.slice none 0 0))))) :
    Sub c s { s with H := s.H.set b (.cells ((List.range n).map fun i => AV.own (s.H.length + i) sz [])) ++ List.replicate n (.tok 0) } := by
  have hlt := lt_of_get? hb
  have key : ∀ k, k ≤ n → Sub c s { s with H := s.H.set b (.cells (((List.range k).map fun i => AV.own (s.H.length + i) sz []) ++ List.replicate (n - k) (.raw (.slice none 0 0)))) ++ List.replicate k (.tok 0) } := by
    intro k
    induction k with
    | zero =>
      intro _
      have : s.H.set b (.cells (((List.range 0).map fun i => AV.own (s.H.length + i) sz []) ++ List.replicate (n - 0) (.raw (.slice none 0 0)))) ++ List.replicate 0 (.tok 0) = s.H := by
        simp only [List.range_zero, List.map_nil, List.nil_append, Nat.sub_zero, List.replicate_zero, List.append_nil]
        obtain ⟨h, hg⟩ := List.getElem?_eq_some_iff.1 hb
        rw [← hg, List.set_getElem_self]
      rw [this]; exact Sub.refl s
    | succ k ih =>
      intro hk
      have h1 := ih (by omega)
      refine h1.trans ?_
      have e1 : n - k = (n - (k + 1)) + 1 := by omega
      have h2 := sub_token_cell (c := c) (s := { s with H := s.H.set b (.cells (((List.range k).map fun i => AV.own (s.H.length + i) sz []) ++ List.replicate (n - k) (.raw (.slice none 0 0)))) ++ List.replicate k (.tok 0) }) b sz
        ((List.range k).map fun i => AV.own (s.H.length + i) sz []) (List.replicate (n - (k + 1)) (.raw (.slice none 0 0)))
        (by simp only; rw [List.getElem?_append_left (by simpa using hlt), List.getElem?_set_self hlt, e1, List.replicate_succ])
      have e2 : ∀ l' : List AV, ((s.H.set b (.cells (((List.range k).map fun i => AV.own (s.H.length + i) sz []) ++ List.replicate (n - k) (AV.raw (.slice none 0 0)))) ++ List.replicate k (AObj.tok 0)).set b (.cells l') ++ [.tok 0]) = s.H.set b (.cells l') ++ List.replicate (k + 1) (.tok 0) := fun l' => by
        rw [List.set_append_left _ _ (by simpa using hlt), List.set_set, List.append_assoc, List.replicate_succ']
      simp only [e2, List.length_append, List.length_set, List.length_replicate] at h2
      rw [List.range_succ, List.map_append, List.append_assoc]
      exact h2
  have := key n (Nat.le_refl n)
  rwa [Nat.sub_self, List.replicate_zero, List.append_nil] at this
end
end Go.Ab
namespace Go.Ab
variable [Tabs]
section ev
variable {P : Program} {r : Option Nat} {H : List AObj} {ρ : Operand → AV}
variable {d : Option Tmp} {t : TypeId} {p : String} {af : Array Edge} {g : Option (Nat × Bool)} {x y : Operand}
theorem ev_len_mp {mt kt et : TypeId} {j : Nat} {es : List (Value × Value)} (hmt : mapTy P mt = some (kt, et)) (hx : Less (ρ x) (.mp j)) (hj : H[j]? = some (.map es)) :
    Ev P r ⟨d, .call ⟨.builtin .len, #[x], #[mt]⟩, t, p, af, g⟩ H ρ (.raw (.int .i64 (es.length : Int))) :=
  Ev.pure (by intro c h; cases h) fun e ρc ok hE hs => by
    have hxr := hx e _ (hs x (by simp [Op.operands, Call.operands]))
    rw [Rep] at hxr
    obtain ⟨h1, h2, b, hb, hxv⟩ := hxr
    obtain ⟨b', ents, cl, hb', hh, hents⟩ := ok.objs j _ (hE j _ hj (fun n e => by cases e))
    rw [hb] at hb'; cases hb'
    have hgo : (getObj b).run P e.w = .ok (.map ents cl) e.w := by simp [getObj, Sem.run, hh]
    have hl : ents.size = es.length := by rw [← hents]; simp
    exact ⟨.int .i64 es.length, by simp [execOp, resolve, invoke, builtin, Builtin.len_, run_und (mapTy_eq hmt), hxv, goInt, hgo, hl], by rw [Rep]⟩
theorem ev_slice_lo {xt et : TypeId} {sz j len cap lo : Nat} {q : Operand} (ht : slElem P xt = some (et, sz)) (hx : Less (ρ x) (.msl j 0 len cap)) (hq : Less (ρ q) (.raw (.int .i64 (lo : Int)))) (h1 : lo ≤ len) (h2 : lo < cap) :
    Ev P r ⟨d, .slice xt x (some q) none none, t, p, af, g⟩ H ρ (.msl j (lo * sz) (len - lo) (cap - lo)) :=
  Ev.pure (by intro c h; cases h) fun e ρc ok hE hs => by
    obtain ⟨k1, ti, k2, rfl⟩ := slElem_und ht
    have := hx e _ (hs x (by simp [Op.operands]))
    rw [Rep] at this
    obtain ⟨a1, a2, b, hb, hv, hle⟩ := this
    have hlo := rep_raw hq (hs q (by simp [Op.operands]))
    have hbd : (Instr.sliceBounds true len cap (some (ρc q)) none none).run P e.w = .ok (lo, len, cap) e.w := by
      simp [Instr.sliceBounds, Instr.sliceBound, hlo, asIntOf, h1, hle]
    have hne : cap ≠ lo := by omega
    refine ⟨.slice (some ⟨b, lo * ti.size, none⟩) (len - lo) (cap - lo), ?_, ?_⟩
    · simp [execOp, Instr.sliceAt, Instr.slice, run_und k1, hv, hbd, run_size k2, Addr.add, hne]
      try exact fun h => h.symm
    · rw [Rep]; exact ⟨a1, a2, b, hb, rfl, by omega⟩
end ev
section seq
variable {c : Ctx} {ops : Array Oper} {Q : AExit → St → Prop} {rest : List Oper} {s : St} {i : Nat}
variable {d : Option Tmp} {t : TypeId} {p : String} {af : Array Edge}
theorem look_mid (A : List AObj) (o : AObj) (Y : List AObj) : (A ++ (o :: Y))[A.length]? = some o := by simp
theorem sq_setAdd {mt kt et : TypeId} {x y z : Operand} {j : Nat} {l l' : List Int} {n : Int} {sl : List (Nat × AV)} {A Y : List AObj} {df : List ADef} (hd : dOK c.nt d = true) (hdn : d = none) (hmt : mapTy c.P mt = some (kt, et)) (hkt : isIntT c.P kt = true)
    (hx : Less ((⟨sl, A ++ (.map (imap (setM l)) :: Y), df⟩ : St).op x) (.mp j)) (hjA : j = A.length) (hy : Less ((⟨sl, A ++ (.map (imap (setM l)) :: Y), df⟩ : St).op y) (.raw (.int .i64 n))) (hz : Less ((⟨sl, A ++ (.map (imap (setM l)) :: Y), df⟩ : St).op z) (.raw (.agg #[]))) (hl : l ++ [n] = l')
    (k : SeqWP c ops Q (i + 1) rest ⟨sl, A ++ (.map (imap (setM l')) :: Y), df⟩) : SeqWP c ops Q i (⟨d, .mapUpdate mt x y z, t, p, af, none⟩ :: rest) ⟨sl, A ++ (.map (imap (setM l)) :: Y), df⟩ := by
  subst hdn hjA hl
  refine sq_mapUpdate (j := A.length) (l := setM l) (n := n) (v := .agg #[]) hd hmt hkt hx hy hz (look_mid _ _ _) (setM_nodup _) ?_
  have : (A ++ (AObj.map (imap (setM l)) :: Y)).set A.length (.map (imap (mapPut (setM l) n (.agg #[])))) = A ++ (.map (imap (setM (l ++ [n]))) :: Y) := by
    rw [List.set_append_right _ _ (Nat.le_refl _), Nat.sub_self, List.set_cons_zero, setM_put]
  show SeqWP c ops Q (i + 1) rest ⟨sl, (A ++ (AObj.map (imap (setM l)) :: Y)).set A.length (.map (imap (mapPut (setM l) n (.agg #[])))), df⟩
  rw [this]; exact k
theorem sq_clear {x : Operand} {st et : TypeId} {sz bytes j off len cap : Nat} {l : List AV} (hd : dOK c.nt d = true) (hdn : d = none) (hf : SlFact c.P st et sz bytes) (hx : Less (s.op x) (.msl j off len cap)) (hj : s.H[j]? = some (.cells l)) (hle : off + len * sz ≤ l.length)
    (k : SeqWP c ops Q (i + 1) rest { s with H := s.H.set j (.cells (l.take off ++ List.replicate (len * sz) .any ++ l.drop (off + len * sz))) }) :
    SeqWP c ops Q i (⟨d, .call ⟨.builtin .clear, #[x], #[st]⟩, t, p, af, none⟩ :: rest) s := by
  subst hdn
  refine sq_op fun e ac hs next hn' => ?_
  have hp := hx e _ (hs.op x)
  rw [Rep] at hp
  obtain ⟨a1, a2, b, hb, hpv, hlc⟩ := hp
  obtain ⟨b', cs, ct, k1, k2, k3, k4, k5⟩ := hs.ok.objs j _ (by rw [hs.H]; exact hj)
  rw [hb] at k1; cases k1
  have hl4 := k4.length
  obtain ⟨ti, z, u1, u2, rfl, rfl, u5, u6, u7⟩ := hf.ex
  have hzr : (zeroValue et).run c.P e.w = .ok z e.w := by simp [zeroValue, run_info u2, u5]
  have hzl : (Builtin.zeroCells z.cells len).toList.length = len * ti.size := by
    simp only [Builtin.zeroCells, Array.toList_map, Array.toList_range, List.length_map, List.length_range, u7]
  have hz1 : ∀ q ∈ (Builtin.zeroCells z.cells len).toList, isCell q = true := fun q hq => zeroCells_cell u6 _ q hq
  have h3 := run_storeCells_at (P := c.P) b off ct (Builtin.zeroCells z.cells len).toList 0 cs e.w k3 (by rw [hzl]; simp at hl4; omega) hz1
  simp only [Nat.add_zero] at h3
  have hsim := hs.setObj (l := l.take off ++ List.replicate (len * ti.size) .any ++ l.drop (off + len * ti.size)) (cs := (cs.toList.take off ++ (Builtin.zeroCells z.cells len).toList ++ cs.toList.drop (off + (Builtin.zeroCells z.cells len).toList.length)).toArray) hj hb k2 k3
    (by
      have h1 : RepL e (List.replicate (len * ti.size) .any) (Builtin.zeroCells z.cells len).toList := by rw [← hzl]; exact RepL.anys _
      have := RepL.splice k4 h1 off
      rw [List.length_replicate] at this
      simpa [hzl] using this) (by
      intro q hq
      simp only [List.mem_append] at hq
      rcases hq with (hq | hq) | hq
      · exact k5 q (List.mem_of_mem_take hq)
      · exact hz1 q hq
      · exact k5 q (List.mem_of_mem_drop hq))
  refine ⟨about_FW _ _ _ _ _, ?_⟩
  show Oper.uponIn (FW c.r) 0 c.P _ ac next (lift c Q) (((Oper.semAt c.r ac.eval ⟨none, .call ⟨.builtin .clear, #[x], #[st]⟩, t, p, af, none⟩)).run c.P e.w)
  rw [semAt_of (by intro c h; cases h)]
  cases len with
  | zero =>
    have hex : (execOp ac.eval ⟨none, .call ⟨.builtin .clear, #[x], #[st]⟩, t, p, af, none⟩).run c.P e.w = .ok (.value (.tuple #[])) e.w := by
      simp [execOp, resolve, invoke, builtin, Builtin.clear_, run_und u1, hpv]
    rw [hex]
    have hsame : s.H.set j (.cells (l.take off ++ List.replicate (0 * ti.size) .any ++ l.drop (off + 0 * ti.size))) = s.H := by
      have : l.take off ++ List.replicate (0 * ti.size) .any ++ l.drop (off + 0 * ti.size) = l := by simp
      rw [this]
      obtain ⟨h, hg⟩ := List.getElem?_eq_some_iff.1 hj
      rw [← hg, List.set_getElem_self]
    rw [hsame] at k
    exact hn' _ e _ k hs
  | succ m =>
    have hex : (execOp ac.eval ⟨none, .call ⟨.builtin .clear, #[x], #[st]⟩, t, p, af, none⟩).run c.P e.w = .ok (.value (.tuple #[])) (e.w.setRow b (cs.toList.take off ++ (Builtin.zeroCells z.cells (m + 1)).toList ++ cs.toList.drop (off + (Builtin.zeroCells z.cells (m + 1)).toList.length)).toArray) := by
      simp [execOp, resolve, invoke, builtin, Builtin.clear_, run_und u1, hpv, hzr, h3]
    rw [hex]
    exact hn' _ _ _ k hsim
end seq
end Go.Ab
namespace Go.Ab
variable [Tabs]
section flat
variable {α : Type} {f : α → List AV} {sz : Nat}
theorem fl_len (hsz : ∀ a, (f a).length = sz) : ∀ R : List α, (R.map f).flatten.length = R.length * sz
  | [] => by simp
  | a :: R => by rw [List.map_cons, List.flatten_cons, List.length_append, hsz, fl_len hsz R, List.length_cons, Nat.succ_mul]; omega
theorem fl_drop (hsz : ∀ a, (f a).length = sz) (R : List α) {i : Nat} (h : i ≤ R.length) : (R.map f).flatten.drop (i * sz) = ((R.drop i).map f).flatten := by
  have e : (R.map f).flatten = ((R.take i).map f).flatten ++ ((R.drop i).map f).flatten := by
    rw [← List.flatten_append, ← List.map_append, List.take_append_drop]
  have hl : ((R.take i).map f).flatten.length = i * sz := by rw [fl_len hsz, List.length_take, Nat.min_eq_left h]
  rw [e, ← hl, List.drop_left']; rfl
theorem fl_take (hsz : ∀ a, (f a).length = sz) (R : List α) {i : Nat} (h : i ≤ R.length) : (R.map f).flatten.take (i * sz) = ((R.take i).map f).flatten := by
  have e : (R.map f).flatten = ((R.take i).map f).flatten ++ ((R.drop i).map f).flatten := by
    rw [← List.flatten_append, ← List.map_append, List.take_append_drop]
  have hl : ((R.take i).map f).flatten.length = i * sz := by rw [fl_len hsz, List.length_take, Nat.min_eq_left h]
  rw [e, ← hl, List.take_left']; rfl
theorem fl_elem (hsz : ∀ a, (f a).length = sz) (R : List α) (rs : List AV) {i : Nat} (h : i < R.length) : (((R.map f).flatten ++ rs).drop (0 + i * sz)).take sz = f R[i] := by
  have hl := fl_len hsz R
  have hle : i * sz + sz ≤ R.length * sz := by rw [← Nat.succ_mul]; exact Nat.mul_le_mul_right _ h
  rw [Nat.zero_add, List.drop_append_of_le_length (by omega), fl_drop hsz R (by omega), List.drop_eq_getElem_cons h, List.map_cons, List.flatten_cons, List.append_assoc]
  conv => lhs; rw [← hsz R[i]]
  rw [List.take_left']; rfl
theorem fl_set (hsz : ∀ a, (f a).length = sz) (R : List α) (rs : List AV) {i : Nat} (h : i < R.length) (v : α) :
    ((R.map f).flatten ++ rs).take (0 + i * sz) ++ f v ++ ((R.map f).flatten ++ rs).drop (0 + i * sz + (f v).length) = ((R.set i v).map f).flatten ++ rs := by
  have hl := fl_len hsz R
  have hle : i * sz + sz ≤ R.length * sz := by rw [← Nat.succ_mul]; exact Nat.mul_le_mul_right _ h
  have e1 : i * sz + sz = (i + 1) * sz := by rw [Nat.succ_mul]
  rw [Nat.zero_add, hsz, List.take_append_of_le_length (by omega), List.drop_append_of_le_length (by omega), e1, fl_take hsz R (by omega), fl_drop hsz R (by omega), List.set_eq_take_append_cons_drop, if_pos h]
  simp [List.append_assoc]
end flat
section seq
variable {c : Ctx} {ops : Array Oper} {Q : AExit → St → Prop} {rest : List Oper} {i : Nat}
variable {d : Option Tmp} {t : TypeId} {p : String} {af : Array Edge} {sl : List (Nat × AV)} {A X : List AObj} {df : List ADef} {α : Type} {f : α → List AV} {sz k : Nat} {R : List α} {rs : List AV}
theorem row_look (hk : k < A.length) : (A.set k (.cells ((R.map f).flatten ++ rs)) ++ X)[k]? = some (.cells ((R.map f).flatten ++ rs)) := by
  rw [List.getElem?_append_left (by simpa using hk), List.getElem?_set_self hk]
theorem sq_storeRow {st : TypeId} {x y : Operand} {a : AV} {bb : Bool} {n : Nat} {v : α} (hd : dOK c.nt d = true) (hdn : d = none) (hsz : ∀ a, (f a).length = sz) (hk : k < A.length) (hn : n < R.length)
    (hx : Less ((⟨sl, A.set k (.cells ((R.map f).flatten ++ rs)) ++ X, df⟩ : St).op x) (.ptr k (0 + n * sz))) (hy : Less ((⟨sl, A.set k (.cells ((R.map f).flatten ++ rs)) ++ X, df⟩ : St).op y) a) (hm : a.cells = some (f v)) (ht : tySz c.P st = some (bb, sz))
    (kk : SeqWP c ops Q (i + 1) rest ⟨sl, A.set k (.cells (((R.set n v).map f).flatten ++ rs)) ++ X, df⟩) : SeqWP c ops Q i (⟨d, .store st x y, t, p, af, none⟩ :: rest) ⟨sl, A.set k (.cells ((R.map f).flatten ++ rs)) ++ X, df⟩ := by
  subst hdn
  have hl := fl_len hsz R
  have hle : n * sz + sz ≤ R.length * sz := by rw [← Nat.succ_mul]; exact Nat.mul_le_mul_right _ hn
  refine sq_store (j := k) (off := 0 + n * sz) (n := sz) (l := (R.map f).flatten ++ rs) hd hx hy hm (row_look hk) ht (by rw [hsz]; exact Nat.beq_refl _) (by rw [List.length_append, hl]; exact Nat.ble_eq_true_of_le (by omega)) ?_
  have e : (A.set k (.cells ((R.map f).flatten ++ rs)) ++ X).set k (.cells (((R.map f).flatten ++ rs).take (0 + n * sz) ++ f v ++ ((R.map f).flatten ++ rs).drop (0 + n * sz + (f v).length))) = A.set k (.cells (((R.set n v).map f).flatten ++ rs)) ++ X := by
    rw [fl_set hsz R rs hn v, List.set_append_left _ _ (by simpa using hk), List.set_set]
  show SeqWP c ops Q (i + 1) rest ⟨sl, (A.set k (.cells ((R.map f).flatten ++ rs)) ++ X).set k (.cells (((R.map f).flatten ++ rs).take (0 + n * sz) ++ f v ++ ((R.map f).flatten ++ rs).drop (0 + n * sz + (f v).length))), df⟩
  rw [e]; exact kk
end seq
section ev
variable {P : Program} {r : Option Nat} {ρ : Operand → AV} {d : Option Tmp} {t : TypeId} {p : String} {af : Array Edge} {g : Option (Nat × Bool)} {x : Operand}
variable {A X : List AObj} {α : Type} {f : α → List AV} {sz k : Nat} {R : List α} {rs : List AV}
theorem ev_loadRow {lt : TypeId} {n : Nat} (hsz : ∀ a, (f a).length = sz) (hk : k < A.length) (hn : n < R.length) (hx : Less (ρ x) (.ptr k (0 + n * sz))) (ht : tySz P lt = some (true, sz)) :
    Ev P r ⟨d, .load lt x, t, p, af, g⟩ (A.set k (.cells ((R.map f).flatten ++ rs)) ++ X) ρ (.agg (f R[n])) := by
  have hl := fl_len hsz R
  have hle : n * sz + sz ≤ R.length * sz := by rw [← Nat.succ_mul]; exact Nat.mul_le_mul_right _ hn
  exact ev_less (ev_load_agg hx (row_look hk) ht (by rw [List.length_append, hl]; exact Nat.ble_eq_true_of_le (by omega))) (Less.eq (by rw [fl_elem hsz R rs hn]))
end ev
end Go.Ab
namespace Go.Ab
variable [Tabs]
theorem fzH_rest {j n c sz : Nat} {es : List (List AV)} : ∀ (H : List AObj) (m : Nat), j < m → FzH j n c sz es m H H
  | [], m, _ => FzH.nil m
  | o :: H, m, h => FzH.same o (by omega) (fzH_rest H (m + 1) (by omega))
theorem fzH_dead {j n c sz : Nat} {es : List (List AV)} : ∀ (H : List AObj) (m q : Nat), j = m + q → FzH j n c sz es m H (H.set q .dead)
  | [], m, _, _ => FzH.nil m
  | o :: H, m, 0, h => FzH.dead o (by omega) (fzH_rest H (m + 1) (by omega))
  | o :: H, m, q + 1, h => FzH.same o (by omega) (fzH_dead H (m + 1) q (by omega))
/-- **A row that is written no more**, held in one slot. -/
theorem sub_freezeK {c : Ctx} {s : St} (ks : List Nat) (u : Nat) {j n cap sz : Nat} {es : List (List AV)} {rest : List AV} (hu : sget s.sl u = .msl j 0 n cap) (hj : s.H[j]? = some (.cells (es.flatten ++ rest))) (hn : es.length = n) (hsz : ∀ q ∈ es, q.length = sz) :
    Sub c s ⟨(u, .sl sz es) :: keepS s.sl ks, s.H.set j .dead, s.df⟩ := by
  refine sub_freeze (j := j) (n := n) (cap := cap) (sz := sz) (es := es) (rest := rest) hj hn hsz (fun q hq => ?_) (fzH_dead s.H 0 j (by omega))
  rcases List.mem_cons.1 hq with rfl | hq
  · rw [hu]; exact Fz.frozen
  · unfold keepS at hq
    obtain ⟨t, _, rfl⟩ := List.mem_map.1 hq
    exact Fz.same _
end Go.Ab
namespace Go.Ab
variable [Tabs]
section
variable {c : Ctx} {Q : AExit → St → Prop} {d : Option Tmp} {op : Op} {t : TypeId} {p : String} {af : Array Edge} {H : List AObj} {df : List ADef} {ρ : Operand → AV} {v : AV}
theorem eff_ev (hd : dOK c.nt d = true) (hv : Ev c.P c.r ⟨d, op, t, p, af, none⟩ H ρ v) : Eff c Q ⟨d, op, t, p, af, none⟩ H df ρ v H :=
  eff_of rfl fun s hH hop Q k => by
    subst hH
    exact sq_ev hd (Ev.congr hop hv) k
end
theorem repL_owns {e : Env} {α : Type} {sz : Nat} {f : α → List (List AV)} {j : α → Nat} : ∀ (l : List α) {vs : List Value}, RepL e (l.map fun a => .own (j a) sz (f a)) vs → RepL e (l.map fun a => .sl sz (f a)) vs
  | [], _, h => h
  | a :: l, vs, h => by
    rw [List.map_cons, RepL] at h
    obtain ⟨v, rest, rfl, h1, h2⟩ := h
    exact RepL.cons (less_own _ _ _ e v h1) (repL_owns l h2)
theorem sub_owns {c : Ctx} {s : St} {α : Type} {sz b : Nat} {f : α → List (List AV)} {j : α → Nat} (l : List α) (hb : s.H[b]? = some (.cells (l.map fun a => .own (j a) sz (f a)))) : Sub c s { s with H := s.H.set b (.cells (l.map fun a => .sl sz (f a))) } :=
  sub_recell hb fun _ _ _ _ h => repL_owns l h
end Go.Ab
namespace Go.Ab
variable [Tabs]
theorem cells_strs {e : Env} : ∀ (l : List (List UInt8)) {b off : Nat}, ElemsAt e (l.map fun x => [S x]) b off → ∀ (j : Nat) (x : ByteArray), (l.map fun r => (⟨r.toArray⟩ : ByteArray))[j]? = some x → e.w.cell? ⟨b, off + j, none⟩ = some (.string x)
  | [], _, _, _, j, x, hj => by simp at hj
  | r :: l, b, off, h, j, x, hj => by
    rw [List.map_cons, ElemsAt] at h
    obtain ⟨h1, h2⟩ := h
    cases j with
    | zero =>
      rw [CellsAt] at h1
      obtain ⟨⟨_, v, hv, hr, _⟩, _⟩ := h1
      rw [Rep] at hr
      simp only [List.map_cons, List.getElem?_cons_zero, Option.some.injEq] at hj
      subst hj; subst hr
      exact hv
    | succ j =>
      have := cells_strs l (off := off + 1) h2 j x (by simpa using hj)
      rw [← this]; congr 2; omega
/-- **A contract over a row of strings**: what the shelf says, at a row in a block, or at none. -/
theorem apure_of_strs {P : Program} {f : FuncId} {l : List (List UInt8)} {more : List Value} {u : Value}
    (h0 : l = [] → ∀ a c w, Tabs.is w → Calls P f (.slice a 0 c :: more).toArray w fun x w' => x = .returned u ∧ Still w w' ∧ w.heap.size ≤ w'.heap.size ∧ ∀ b, b < w.heap.size → w'.heap[b]? = w.heap[b]?)
    (h1 : ∀ bk o c w, Tabs.is w → (∀ (j : Nat) x, (l.map fun r => (⟨r.toArray⟩ : ByteArray))[j]? = some x → w.cell? ⟨bk, o + j, none⟩ = some (.string x)) → bk < w.heap.size → l.length ≤ c →
      Calls P f (.slice (some ⟨bk, o, none⟩) l.length c :: more).toArray w fun x w' => x = .returned u ∧ Still w w' ∧ w.heap.size ≤ w'.heap.size ∧ ∀ b, b < w.heap.size → w'.heap[b]? = w.heap[b]?) :
    APure P f (.sl 1 (l.map fun x => [S x]) :: more.map .raw) (.raw u) := by
  intro e us ok hs
  rw [RepL] at hs
  obtain ⟨v, rest, hus, hv, hr⟩ := hs
  have hr' : rest = more := repL_raws_eq hr
  subst hr'
  have hus' : us = (v :: rest).toArray := Array.ext' (by simpa using hus)
  subst hus'
  rw [Rep] at hv
  obtain ⟨a, len, cap, rfl, hlen, hle, hn, _, hel⟩ := hv
  simp only [List.length_map] at hlen
  subst hlen
  have hcall : Calls P f (.slice a l.length cap :: rest).toArray e.w fun x w' => x = .returned u ∧ Still e.w w' ∧ e.w.heap.size ≤ w'.heap.size ∧ ∀ b, b < e.w.heap.size → w'.heap[b]? = e.w.heap[b]? := by
    cases l with
    | nil => exact h0 rfl a cap e.w ok.tabs.1
    | cons r l =>
      cases a with
      | none => have := hn rfl; simp at hle; omega
      | some ad =>
        obtain ⟨bk, o, sp⟩ := ad
        obtain ⟨hsp, he⟩ := hel _ rfl
        have hsp := hsp (by simp at hle; omega); simp only at hsp; subst hsp
        have hc := cells_strs (r :: l) he
        refine h1 bk o cap e.w ok.tabs.1 hc ?_ hle
        have h0 := hc 0 _ rfl
        unfold World.cell? at h0
        cases hb : e.w.heap[bk]? with
        | none => simp [hb] at h0
        | some ob => exact lt_of_heap hb
  have h1 := (callsIn_wide (n := 0)).2 hcall
  refine CallsIn.mono (F := FW none) (n := 0) h1 ?_
  rintro x w' ⟨rfl, hst, hsz, hw⟩
  exact ⟨u, { e with w := w' }, rfl, rfl, ⟨rfl, fun _ _ => rfl, hsz, hst, hw, fun _ _ => rfl, fun b hb => ok.fresh b (Nat.le_trans hsz hb)⟩, by rw [Rep]⟩
end Go.Ab
namespace Go.Ab
variable [Tabs]
theorem bs_cut (l : List UInt8) (lo hi : Nat) : (⟨l.toArray⟩ : ByteArray).extract lo hi = ⟨((l.take hi).drop lo).toArray⟩ := by
  apply ByteArray.ext
  rw [ByteArray.data_extract]
  simp [List.extract_eq_take_drop, List.drop_take]
section ev
variable {P : Program} {r : Option Nat} {H : List AObj} {ρ : Operand → AV}
variable {d : Option Tmp} {t : TypeId} {p : String} {af : Array Edge} {g : Option (Nat × Bool)} {x q q2 : Operand}
theorem ev_cutHi {xt : TypeId} {l : List UInt8} {hi : Nat} (ht : P.underlying xt = some .string) (hx : Less (ρ x) (S l)) (hq : Less (ρ q) (.raw (.int .i64 (hi : Int)))) (h : hi ≤ l.length) :
    Ev P r ⟨d, .slice xt x none (some q) none, t, p, af, g⟩ H ρ (S (l.take hi)) :=
  ev_less (ev_slice_str (lo := 0) (hi := hi) ht hx rfl hq (Nat.zero_le _) (by rw [bs_size]; exact h)) (Less.eq (by rw [bs_cut]; simp))
theorem ev_cutLo {xt : TypeId} {l : List UInt8} {lo : Nat} (ht : P.underlying xt = some .string) (hx : Less (ρ x) (S l)) (hq : Less (ρ q) (.raw (.int .i64 (lo : Int)))) (h : lo ≤ l.length) :
    Ev P r ⟨d, .slice xt x (some q) none none, t, p, af, g⟩ H ρ (S (l.drop lo)) :=
  ev_less (ev_slice_str (lo := lo) (hi := l.length) ht hx hq (by rw [bs_size]) h (by rw [bs_size]; exact Nat.le_refl _)) (Less.eq (by rw [bs_cut]; simp))
end ev
end Go.Ab
