/-
  A part of the proof: conditions: none beyond each theorem's own.
-/
import Derived.Test.YtnbjaepkbabkhaaGreatLogicA
import Derived.Test.YtnbjaepkbabkhaaGreatLogicB
import Derived.Test.YtnbjaepkbabkhaaGreatLogicD
import Derived.Deep.Slices
import Derived.OpenShut
import Derived.Carry
import Derived.IntWalk
import Derived.Test.YtnbjaepkbabkhaaGreatLogicC
import Derived.RangeFuncNested
import Derived.Laws.CopyRow
import Derived.Test.YtnbjaepkbabkhaaGreatSpecA
import Derived.Test.YtnbjaepkbabkhaaGreatProg
import Derived.KernelRfl
import Derived.Lib.LaidTab
import Derived.Lib.ItoaNum
import Derived.Test.YtnbjaepkbabkhaaGreatWalkA
import Derived.Test.YtnbjaepkbabkhaaGreatWalkD
import Derived.Test.YtnbjaepkbabkhaaGreatRow
import Derived.Test.YtnbjaepkbabkhaaGreatLogicE
import Derived.Test.YtnbjaepkbabkhaaGreatShelfA
import Derived.Test.YtnbjaepkbabkhaaGreatWalkB
import Derived.Test.YtnbjaepkbabkhaaGreatWalkC
set_option linter.all false
set_option maxRecDepth 100000
set_option maxHeartbeats 8000000
namespace Go.Ab
variable [Tabs]
theorem FW_room (r : Option Nat) (n : Nat) : (FW r).room n := fun _ h => by simp [FW] at h
variable {c : Ctx} {Q : AExit → St → Prop} {s : St}
end Go.Ab
namespace Go.Ab
variable [Tabs]
section tok
variable {c : Ctx} {ops : Array Oper} {Q : AExit → St → Prop} {rest : List Oper} {s : St} {i : Nat}
variable {d : Option Tmp} {t : TypeId} {p : String} {af : Array Edge}
theorem sq_append_new {x y : Operand} {st xt et et' : TypeId} {sz bytes : Nat} {es xs : List (List AV)} (hd : dOK c.nt d = true)
    (hf : SlFact c.P st et sz bytes) (hk : c.P.underlying xt = some (.slice et')) (hx : Less (s.op x) (.slx sz es)) (hy : Less (s.op y) (.sl sz xs))
    (hb : (es.length + xs.length) * bytes ≤ 140737488355328) (h63 : es.length + xs.length ≤ 9223372036854775807)
    (k : SeqWP c ops Q (i + 1) rest (St.put { s with H := s.H ++ [.tok (es ++ xs).length] } d (.own s.H.length sz (es ++ xs)))) : SeqWP c ops Q i (⟨d, .call ⟨.builtin .append, #[x, y], #[st, xt]⟩, t, p, af, none⟩ :: rest) s := by
  rw [List.length_append] at k
  refine sq_op fun e ac hs next hn' => ?_
  have hu := hx e _ (hs.op x)
  have hv := hy e _ (hs.op y)
  have hu' := hu
  rw [Rep] at hu'
  obtain ⟨a, len, hv1, hlen, hnil, hsz, hc⟩ := hu'
  refine ⟨about_FW _ _ _ _ _, ?_⟩
  show Oper.uponIn (FW c.r) 0 c.P _ ac next (lift c Q) (((Oper.semAt c.r ac.eval ⟨d, .call ⟨.builtin .append, #[x, y], #[st, xt]⟩, t, p, af, none⟩)).run c.P e.w)
  rw [semAt_of (by intro c h; cases h)]
  have hex : (execOp ac.eval ⟨d, .call ⟨.builtin .append, #[x, y], #[st, xt]⟩, t, p, af, none⟩).run c.P e.w = ((Builtin.append_ #[st, xt] t #[.slice a len len, ac.eval y]).run c.P e.w).andThen fun v w'' => .ok (.value v) w'' := by
    simp [execOp, resolve, invoke, builtin, hv1]
  rw [hex]
  subst hlen
  rcases Nat.eq_zero_or_pos xs.length with h0 | hpos
  · have : xs = [] := List.length_eq_zero_iff.1 h0
    subst this
    rw [run_append_nothing' hf hk hv (Nat.le_refl _)]
    obtain ⟨e', hw, hG, le, hH, hμ, hs'⟩ := sim_tok hs es.length
    have := Rep.mono le _ (less_slx _ _ _ _ hu)
    rw [hv1, Rep] at this
    obtain ⟨a', len', cap', q1, q2, q3, q4, q5, q6⟩ := this
    cases q1
    show next _ e.w
    rw [← hw]
    refine hn' _ e' _ k (hs'.put hd ?_)
    rw [Rep, List.append_nil]
    refine ⟨a, es.length, es.length, rfl, rfl, Nat.le_refl _, fun h => hnil h, hsz, q6, by rw [hH]; simp, ⟨es.length, by unfold Env.T; rw [hH]; simp [tokOf], Nat.le_refl _⟩, fun _ ad _ hlt => absurd hlt (Nat.lt_irrefl _)⟩
  · obtain ⟨e1, hw1, hG1, le1, hH1, hμ1, hs1⟩ := sim_tok hs 0
    have hlast : e1.H[s.H.length]? = some (.tok 0) := by rw [hH1]; simp
    have hTj : e1.T s.H.length = some 0 := by unfold Env.T; rw [hlast]; rfl
    have hjl : s.H.length < e1.H.length := by rw [hH1]; simp
    have hv' : Rep e1 (.sl sz xs) (ac.eval y) := Rep.mono le1 _ hv
    have hc' : ∀ ad, a = some ad → (es.length ≠ 0 → ad.spot = none) ∧ ElemsAt e1 es ad.block ad.off := fun ad h => ⟨(hc ad h).1, ElemsAt.mono le1 es (hc ad h).2⟩
    obtain ⟨cap', cs, w', hrun, hw, hst, hle2, hcs, hcells, hall⟩ := run_append_row (P := c.P) (t := t) (cap := es.length) hs1.ok hf hk rfl hnil hsz hc' hv' (by omega) hb h63
    have hj : ({ s with H := s.H ++ [.tok 0] } : St).H[s.H.length]? = some (.tok 0) := by simp
    obtain ⟨hsim, hle'⟩ := hs1.grew (j := s.H.length) (b := e1.w.heap.size) (n := 0) (n' := es.length + xs.length) (g := (es.length + xs.length) * sz) (w' := w') hst hj (by omega) (.inr rfl) (by rw [hs1.ok.fresh _ (Nat.le_refl _)]; omega) (by simp [hw]) (by simp [hw])
      (fun b' hb' hne => by rw [hw, Array.getElem?_push, if_neg hne]) (fun m hmlt => by rw [hs1.ok.fresh _ (Nat.le_refl _)] at hmlt; omega) (fun b' hb' h => by simp [hw] at hb'; omega)
    rw [← hw1, hrun]
    have hset : (s.H ++ [AObj.tok 0]).set s.H.length (.tok (es.length + xs.length)) = s.H ++ [.tok (es.length + xs.length)] := by
      rw [List.set_append_right _ _ (Nat.le_refl _)]; simp
    have hsim' : Sim c { s with H := s.H ++ [.tok (es.length + xs.length)] } (e1.grew s.H.length e1.w.heap.size (es.length + xs.length) ((es.length + xs.length) * sz) w') ac := by
      rw [← hset]; exact hsim
    refine hn' _ _ _ k (hsim'.put hd ?_)
    rw [Rep]
    refine ⟨_, _, _, rfl, by simp, hle2, (fun h => by cases h), hall, fun ad had => ?_, by simpa [Env.grew] using hjl, ⟨es.length + xs.length, by rw [Env.grew_T hjl, if_pos rfl], by simp⟩, fun _ ad had hlt => ?_⟩
    · simp only [Option.some.injEq] at had; subst had
      refine ⟨fun _ => rfl, ElemsAt.flat.2 ?_⟩
      have hxt : Ext e1 (e1.row ((es.length + xs.length) * sz) w') := Env.row_ext hs1.ok hw hst
      have le3 : (e1.row ((es.length + xs.length) * sz) w').Le (e1.grew s.H.length e1.w.heap.size (es.length + xs.length) ((es.length + xs.length) * sz) w') := by
        have hT : ∀ i, (e1.row ((es.length + xs.length) * sz) w').T i = e1.T i := fun i => rfl
        refine ⟨by simp [Env.grew, Env.row], fun i hi ht => ?_, fun b' off ho => ⟨ho, rfl⟩, fun i m ht => ?_⟩
        · rw [hT] at ht
          have hij : i ≠ s.H.length := fun h => by subst h; rw [hTj] at ht; cases ht
          rw [Env.grew_T hjl, if_neg hij]; exact ⟨ht, fun _ hb => by simpa [Env.grew, hij, Env.row] using hb⟩
        · rw [hT] at ht
          by_cases hij : i = s.H.length
          · subst hij
            have : m = 0 := by rw [hTj] at ht; exact (Option.some.inj ht).symm
            subst this
            exact ⟨_, by rw [Env.grew_T hjl, if_pos rfl], by omega, fun h => by omega⟩
          · exact ⟨m, by rw [Env.grew_T hjl, if_neg hij]; exact ht, Nat.le_refl _, fun _ => ⟨by simp [Env.grew, hij, Env.row], fun b' cs t _ hh => ⟨rfl, cs, hh, rfl⟩⟩⟩
      exact CellsAt.mono le3 _ hcells
    · simp only [Option.some.injEq] at had; subst had
      exact ⟨by simp [Env.grew], by simp [Env.grew], cs, et, by simp [Env.grew, hw], by simp [hcs]⟩
end tok
section eff
variable {c : Ctx} {Q : AExit → St → Prop} {H : List AObj} {df : List ADef} {ρ : Operand → AV} {d : Option Tmp} {t : TypeId} {p : String} {af : Array Edge}
theorem eff_append {x y : Operand} {st xt et et' : TypeId} {j sz bytes : Nat} {es xs : List (List AV)} (hd : dOK c.nt d = true)
    (hf : SlFact c.P st et sz bytes) (hk : c.P.underlying xt = some (.slice et')) (hx : ρ x = .own j sz es) (hj : H[j]? = some (.tok es.length)) (hy : Less (ρ y) (.sl sz xs))
    (hb : (es.length + xs.length) * bytes ≤ 140737488355328) (h63 : es.length + xs.length ≤ 9223372036854775807) :
    Eff c Q ⟨d, .call ⟨.builtin .append, #[x, y], #[st, xt]⟩, t, p, af, none⟩ H df ρ (.own j sz (es ++ xs)) (H.set j (.tok (es ++ xs).length)) :=
  eff_of rfl fun s hH hop Q k => by
    subst hH
    exact sq_append' hd hf hk (by rw [hop x (by simp [Op.operands, Call.operands])]; exact hx) hj (by rw [hop y (by simp [Op.operands, Call.operands])]; exact hy) hb h63 k
end eff
end Go.Ab
namespace Go.Ab
open Go.ChangeShapes Go.WideShapes
variable [Tabs]
theorem env0_ok {w : World} (h : Tabs.is w) (hb : ∀ b, Tabs.blk b → b < w.heap.size) : EnvOK (env0 w) :=
  ⟨fun b hb => by have hb' : w.heap.size ≤ b := hb
                  have : w.heap[b]? = none := by simpa using hb'
                  simp [env0, this], fun i o h => by simp [env0] at h, fun i j b hi => by simp [env0] at hi, fun i b hi => by simp [env0] at hi, h, fun b hk => ⟨hb b hk, fun i hi => by simp [env0] at hi⟩⟩
section
variable {H : Type} {enc : TypeId × Value → H} {P : Program} {w : World} {base : Nat} {spare : Nat → Bool} {held : Bool}
theorem trodAll_stays (hl : laidOutB P = true) {W W' : World} (hheap : ∀ b, b < W.heap.size → W'.heap[b]? = W.heap[b]?) {sp' : Nat → Bool} :
    ∀ {ts : List TypeId} {vs : List Value} {ds : List (DataW H)} {ps : List MemPlace}, (∀ t ∈ ts, P.readableRec t = true ∧ t < P.types.size) → DataW.TrodAll enc P W base (fun _ => true) true ts vs ds ps → (∀ p ∈ ps, p.block < W.heap.size) → (∀ p ∈ ps, sp' p.block = true) →
      DataW.TrodAll enc P W' base sp' true ts vs ds ps
  | [], _, _, _, _, h, _, _ => by
    obtain ⟨rfl, rfl, rfl⟩ := trodAll_nil h
    exact trodAll_mk0
  | t :: ts, _, _, _, ht, h, hlt, hs => by
    obtain ⟨v, vs1, d, ds1, a, b, rfl, rfl, rfl, h1, h2⟩ := trodAll_cons h
    refine trodAll_cons_mk (WideElems.Trod_stays hl (ht t (by simp)).1 (ht t (by simp)).2 h1 (fun p hp => ?_) (fun p hp => hs p (by simp [hp]))) (trodAll_stays hl hheap (fun u hu => ht u (List.mem_cons_of_mem _ hu)) h2 (fun p hp => hlt p (by simp [hp])) (fun p hp => hs p (by simp [hp])))
    have hb := hheap p.block (hlt p (by simp [hp]))
    cases p with
    | cell b o => exact cell?_of_heap hb
    | map b => exact hb
/-- **What a law's row asks of a call that returns true and leaves what it met.** -/
theorem post_true {f : Func} {s : ChangeSpec} {W W' : World} {args : Array Value} {ds gs : List (DataW H)} {before : List MemPlace} {tb : TypeId} (hl : laidOutB P = true) (hread : ∀ t ∈ f.params.toList, P.readableRec t = true ∧ t < P.types.size)
    (hres : f.resultTypes = #[tb]) (htb : P.underlying tb = some .bool) (hvars : s.vars = []) (hspec : (s.fn H ds).results = [.lit (.bool true)] ∧ (s.fn H ds).args = ds ∧ (s.fn H ds).vars = [])
    (hW : DataW.Whole enc P f.params.toList s.vars false W args.toList ds gs before) (hheap : ∀ b, b < W.heap.size → W'.heap[b]? = W.heap[b]?) (hst : Still W W') :
    s.post enc P f false true false false W args (.bool true) W' := by
  have hlt := hW.lt
  have hW0 := hW
  obtain ⟨p, q, h1, h2, rfl, _, _⟩ := hW
  rw [hvars] at h2
  obtain ⟨rfl, rfl⟩ := trodVars_none h2
  simp only [List.append_nil] at hlt
  obtain ⟨e1, e2, e3⟩ := hspec
  refine ⟨ds, [], p ++ [], [], p, [], hW0, ?_, ?_, ?_, ?_, fun h => by cases h⟩
  · rw [List.append_nil, e1, hres]
    exact trodAll_cons_mk (RowKit.shut_bool htb _) trodAll_mk0
  · rw [List.append_nil, e2]
    exact trodAll_stays hl hheap hread h1 hlt (fun p hp => by simpa using hlt p hp)
  · rw [List.append_nil, e3, hvars]; rfl
  · refine ⟨hst.1, hst.2, fun i hi => ?_⟩
    rw [hheap i hi]
    split <;> simp_all
theorem APure.law {f : FuncId} {args : List AV} {W : World} {vs : Array Value} (hc : APure P f args (.raw (.bool true))) (ht : Tabs.is W) (hb : ∀ b, Tabs.blk b → b < W.heap.size) (hr : RepL (env0 W) args vs.toList) :
    Calls P f vs W fun x W' => x = .returned (.bool true) ∧ (∀ b, b < W.heap.size → W'.heap[b]? = W.heap[b]?) ∧ Still W W' := by
  refine ((hc (env0 W) vs (env0_ok ht hb) hr).calls (fun k => FW_room none k)).mono ?_
  rintro x w' ⟨u, e', rfl, rfl, hx, hu⟩
  rw [Rep] at hu; subst hu
  exact ⟨rfl, hx.heap, hx.still⟩
end
end Go.Ab
namespace Go.Ab
variable [Tabs]
theorem J {a : AV} : Less a a := Less.rfl' a
section seq
variable {c : Ctx} {ops : Array Oper} {Q : AExit → St → Prop} {rest : List Oper} {s : St} {i : Nat}
variable {d : Option Tmp} {op : Op} {t : TypeId} {p : String} {af : Array Edge}
end seq
section cond
variable {c : Ctx} {Q : AExit → St → Prop} {s : St} {x : Operand} {y z : Code}
end cond
section split
variable {c : Ctx} {ops : Array Oper} {Q : AExit → St → Prop} {s : St} {i : Nat} {l : List Oper}
end split
section draw
variable {c : Ctx} {H0 : List AObj} {ops : Array Oper} {Q : AExit → St → Prop} {m i : Nat} {s : St} {rest : List Oper}
variable {d : Option Tmp} {op : Op} {t : TypeId} {p : String} {af : Array Edge}
end draw
section ex
variable {c : Ctx} {Q : AExit → St → Prop} {K : St → Prop} {s : St} {id j : Nat}
theorem bo (h : Q (.exit j) s) (e : Nat.beq j id = false := by exact rfl) : AExit.inBlock id Q (.exit j) s := by simp only [AExit.inBlock]; rw [e]; exact h
end ex
section app
variable {c : Ctx} {ops : Array Oper} {Q : AExit → St → Prop} {s : St} {i : Nat} {o : Oper} {l m : List Oper} {H0 : List AObj} {k : Nat}
end app
theorem W (n : Nat) {p q : Prop} (k : q) (h : Cnt n → (Unit → q) → p := by
  intro hc hk
  repeat (
    replace hc := Cnt.pred hc
    repeat (with_reducible (first | refine xn ?_ | refine sa ?_ | refine sa0 ?_ | refine aw_seq ?_ | refine aw_region ?_ | refine sq_nil ?_ | refine aw_skip ?_ | refine aw_block ?_ | refine bn ?_ | refine aw_exit ?_ | refine xe ?_ | refine be ?_ | refine bo ?_ | refine gn ?_ | refine ge ?_ | refine xr ?_ | refine br ?_ | refine gr ?_ | refine aw_label ?_ | refine aw_scope ?_))
    first
    | ((with_reducible apply sq_ev); exact rfl; exact EV)
    | ((with_reducible apply sn1); exact rfl; exact rfl; exact GD J; exact rfl)
    | ((with_reducible apply sn0); exact rfl; exact rfl; exact GD J; exact rfl)
    | ((with_reducible apply sq_yes); exact rfl; exact rfl; exact GD J; exact rfl; exact EV)
    | ((with_reducible apply su); exact rfl; exact rfl; exact J; exact rfl)
    | ((with_reducible apply sq_box); exact rfl; exact J; exact rfl)
    | ((with_reducible apply sq_alloc); exact rfl; exact ZeO.h)
    | ((with_reducible apply sq_store); exact rfl; exact J; exact J; exact rfl; exact rfl; exact TyF.h; exact rfl; exact rfl)
    | ((with_reducible refine aw_true ?_ ?_); exact GD J)
    | ((with_reducible refine aw_false ?_ ?_); exact GD J))
  repeat (with_reducible (first | refine xn ?_ | refine sa ?_ | refine sa0 ?_ | refine aw_seq ?_ | refine aw_region ?_ | refine sq_nil ?_ | refine aw_skip ?_ | refine aw_block ?_ | refine bn ?_ | refine aw_exit ?_ | refine xe ?_ | refine be ?_ | refine bo ?_ | refine gn ?_ | refine ge ?_ | refine xr ?_ | refine br ?_ | refine gr ?_ | refine aw_label ?_ | refine aw_scope ?_ | refine aw_ret ?_))
  exact hk ()) : p := h ⟨⟩ fun _ => k
end Go.Ab
namespace Go.Ab
variable [Tabs]
section range
variable {c : Ctx} {Q : AExit → St → Prop} {s : St}
theorem aw_rangeFuncP {g : Operand} {p v id : Nat} {ty : TypeId} {pos : String} {af : Array Edge} {body : Code} {f : FuncId} {first caps xs : List AV} (T : Nat → List AObj) (m : Nat) (jump : Option Code)
    (hm : m ≤ xs.length) (hj : jump = none → m = xs.length) (hj' : jump ≠ none → 0 < m) (hjo : jumpOK jump = true) {DD : List AObj} {DM : List ADef} (hen : Enters c s p (.region id [⟨some v, .assign (.tmp p), ty, pos, af, none⟩].toArray false) body DD DM) (hDD : ∀ k, objsIn k DD = true)
    (hg : Less (s.op g) (.fn (.func f) first caps)) (he : Ent c.P f) (hit : AIter2 c.P f first caps xs)
    (hT0 : T 0 = s.H) (hlen : ∀ i, (T i).length = s.H.length) (hin : ∀ i, i ≤ m → objsIn s.H.length (T i) = true) (hpx : ∀ x ∈ xs, x.pureB = true) (hp : Nat.blt p c.nt = true) (hv : Nat.blt v c.nt = true)
    (hb : ∀ l i x e0, i < m → xs[i]? = some x → e0.H = T i → LoopAt e0 l → c.e0.Le e0 → AWP ⟨c.P, some l, c.nt, e0⟩ body (fun ax s' => (∃ Y, s'.H = T (i + 1) ++ Y) ∧ s'.df = [] ∧ jumpEx (if i + 1 = m then jump else none) ax) ⟨(v, x) :: (p, x) :: s.sl, T i, []⟩)
    (k : ∀ ax, jumpEx jump ax → Q ax ⟨s.sl, T m ++ DD, DM ++ s.df⟩) :
    AWP c (.rangeFunc g #[p] (.region id [⟨some v, .assign (.tmp p), ty, pos, af, none⟩].toArray false) body) Q s :=
  aw_rangeFuncG T m jump (fun _ x => (v, x) :: (p, x) :: s.sl) hm hj hj' hjo hen hDD hg he hit hT0 hlen hin hpx hp
    (fun l i x e0 hi hx he0 => by
      refine aw_region (sq_ev hv (ev_as (v := x) (Less.eq (by simp [St.op, sget]))) ?_)
      refine sq_nil ?_
      exact ⟨rfl, rfl⟩) hb k
theorem je_no {p : Bool} {q : Prop} [Decidable q] (h : (p && decide q) = false) : jumpEx (if q then (if p = true then some .ret else none) else none) .normal := by
  by_cases hq : q
  · rw [if_pos hq]
    have hp : p = false := by simpa [hq] using h
    subst hp; exact rfl
  · rw [if_neg hq]; exact rfl
theorem je_yes {p : Bool} {q : Prop} [Decidable q] (h : (p && decide q) = true) : jumpEx (if q then (if p = true then some .ret else none) else none) .ret := by
  simp only [Bool.and_eq_true, decide_eq_true_eq] at h
  rw [if_pos h.2, if_pos h.1]; exact rfl
theorem jo_ret (p : Bool) : jumpOK (if p = true then some .ret else none) = true := by cases p <;> rfl
theorem je_ret {p : Bool} (h : p = true) {ax : AExit} (k : jumpEx (if p = true then some .ret else none) ax) : ax = .ret := by subst h; exact k
theorem je_nor {p : Bool} (h : p = false) {ax : AExit} (k : jumpEx (if p = true then some .ret else none) ax) : ax = .normal := by subst h; exact k
end range
end Go.Ab
namespace Go.Ab
variable [Tabs]
section seq
variable {c : Ctx} {ops : Array Oper} {Q : AExit → St → Prop} {rest : List Oper} {s : St} {i : Nat}
variable {d : Option Tmp} {t : TypeId} {p : String} {af : Array Edge}
theorem sq_isnil {x y : Operand} {xt yt et : TypeId} {sz : Nat} {es : List (List AV)} (hd : dOK c.nt d = true) (ht : slElem c.P xt = some (et, sz)) (hx : Less (s.op x) (.sl sz es)) (hy : Less (s.op y) (.raw (.slice none 0 0)))
    (k1 : es = [] → SeqWP c ops Q (i + 1) rest (s.put d (.raw (.bool true)))) (k2 : SeqWP c ops Q (i + 1) rest (s.put d (.raw (.bool false)))) :
    SeqWP c ops Q i (⟨d, .binOp .eql xt x y yt, t, p, af, none⟩ :: rest) s := by
  refine sq_op fun e ac hs next hn => ?_
  obtain ⟨h1, _⟩ := slElem_und ht
  have hv := hx e _ (hs.op x)
  have hw := rep_raw hy (hs.op y)
  rw [Rep] at hv
  obtain ⟨a, len, cap, hv, hlen, hle, hnil, _⟩ := hv
  refine ⟨about_FW _ _ _ _ _, ?_⟩
  show Oper.uponIn (FW c.r) 0 c.P _ ac next (lift c Q) (((Oper.semAt c.r ac.eval ⟨d, .binOp .eql xt x y yt, t, p, af, none⟩)).run c.P e.w)
  rw [semAt_of (by intro c h; cases h)]
  cases a with
  | none =>
    have hc := hnil rfl
    subst hc
    have hl0 : len = 0 := by omega
    subst hl0
    have he : (Op.equal xt (.slice none 0 0) (.slice none 0 0)).run c.P e.w = .ok true e.w := by
      show (Op.equalIn (9999 + 1) xt _ _).run c.P e.w = _
      rw [Op.equalIn]; simp [run_und h1]
    have hg : (eqGuard .eql xt x y (.slice none 0 0) (.slice none 0 0)).run c.P e.w = .ok () e.w := by simp [eqGuard]
    have hb : (binOp .eql xt (.slice none 0 0) (.slice none 0 0)).run c.P e.w = .ok (.bool true) e.w := by
      show (do pure (.bool (← Op.equal xt (.slice none 0 0) (.slice none 0 0))) : Sem Value).run c.P e.w = _
      simp [he]
    have hex : (execOp ac.eval ⟨d, .binOp .eql xt x y yt, t, p, af, none⟩).run c.P e.w = .ok (.value (.bool true)) e.w := by
      simp only [execOp, hv, hw]
      simp [hg, hb]
    rw [hex]
    exact hn _ _ _ (k1 (List.length_eq_zero_iff.1 hlen.symm)) (hs.put hd (by rw [Rep]))
  | some ad =>
    have he : (Op.equal xt (.slice (some ad) len cap) (.slice none 0 0)).run c.P e.w = .ok false e.w := by
      show (Op.equalIn (9999 + 1) xt _ _).run c.P e.w = _
      rw [Op.equalIn]; simp [run_und h1]
    have hg : (eqGuard .eql xt x y (.slice (some ad) len cap) (.slice none 0 0)).run c.P e.w = .ok () e.w := by simp [eqGuard]
    have hb : (binOp .eql xt (.slice (some ad) len cap) (.slice none 0 0)).run c.P e.w = .ok (.bool false) e.w := by
      show (do pure (.bool (← Op.equal xt (.slice (some ad) len cap) (.slice none 0 0))) : Sem Value).run c.P e.w = _
      simp [he]
    have hex : (execOp ac.eval ⟨d, .binOp .eql xt x y yt, t, p, af, none⟩).run c.P e.w = .ok (.value (.bool false)) e.w := by
      simp only [execOp, hv, hw]
      simp [hg, hb]
    rw [hex]
    exact hn _ _ _ k2 (hs.put hd (by rw [Rep]))
end seq
section ev
variable {P : Program} {r : Option Nat} {H : List AObj} {ρ : Operand → AV} {d : Option Tmp} {t : TypeId} {p : String} {af : Array Edge} {g : Option (Nat × Bool)} {x y : Operand}
end ev
end Go.Ab
namespace Go.Ab
section
variable [Tabs]
variable {c : Ctx} {Q : AExit → St → Prop} {s : St}
inductive WkO : AObj → AObj → Prop
  | same (o : AObj) : WkO o o
  | dead (l : List AV) : WkO (.cells l) .dead
  | pre (L R : List AV) : WkO (.cells (L ++ R)) (.pre L)
inductive WkL : List AObj → List AObj → Prop
  | nil : WkL [] []
  | cons {o o' : AObj} {l l' : List AObj} (h : WkO o o') (k : WkL l l') : WkL (o :: l) (o' :: l')
end
section
variable [Tabs] {c : Ctx} {Q : AExit → St → Prop} {H : List AObj} {df : List ADef} {ρ : Operand → AV} {d : Option Tmp} {t : TypeId} {p : String} {af : Array Edge}
theorem eff_call {x : Operand} {ys : Array Operand} {ats : Array TypeId} {f : FuncId} {first cap args : List AV} {v : AV} {H' : List AObj} (hd : dOK c.nt d = true) (he : Ent c.P f) (hx : Less (ρ x) (.fn (.func f) first cap))
    (ha : LessL (first ++ ys.toList.map ρ ++ cap) args) (hc : ACall c.P f args H fun y H1 => y = .ret v ∧ H1 = H') : Eff c Q ⟨d, .call ⟨.value x, ys, ats⟩, t, p, af, none⟩ H df ρ v H' :=
  eff_of rfl fun s hH hop Q k => by
    subst hH
    have hm : ys.toList.map s.op = ys.toList.map ρ := List.map_congr_left fun y hy => hop y (by simp [Op.operands, Call.operands]; right; simpa using hy)
    exact sq_call hd he (by rw [hop x (by simp [Op.operands, Call.operands])]; exact hx) (by rw [hm]; exact ha) hc (by rintro _ _ ⟨h, rfl⟩; cases h; exact k) (by rintro _ _ ⟨h, _⟩; cases h)
end
section
variable [Tabs] {c : Ctx} {Q : AExit → St → Prop} {s : St}
end
section more
variable [Tabs]
variable {c : Ctx} {Q : AExit → St → Prop} {s : St}
section ev
variable {P : Program} {r : Option Nat} {H : List AObj} {ρ : Operand → AV} {d : Option Tmp} {t : TypeId} {p : String} {af : Array Edge} {g : Option (Nat × Bool)}
end ev
end more
end Go.Ab
namespace Go.Ab
variable [Tabs]
section main
variable {c : Ctx} {Q : AExit → St → Prop} {Hc : List AObj} {ops : Array Oper} {fs es : List Nat} {b : Array Nat} {«as» : List Act4} {s sf : St}
theorem any_drawc {Q : AExit → St → Prop} {l : List Oper} (fs es : List Nat) (Hc : List AObj) {s : St} (hok : drawOKc l.toArray fs es = true) (hHc : HSub Hc s.H) (h : DC c Hc l.toArray fs es Q 0 l s) {e : Env} {a : Act} (hs : Sim c s e a) :
    wpAnyIn (FW c.r) 0 c.P .any l.toArray (lift c Q) l.toArray.size (Array.replicate l.toArray.size false) a { e.w with drawn := e.w.drawn + 1 } := by
  obtain ⟨«as», sf, hlen, hval, hQ⟩ := h (Nat.zero_le _) (by simp)
  generalize l.toArray = ops at *
  have hlen : «as».length = ops.size := by omega
  have hc := chkC_of hok
  have hT : Tx c Q Hc ops fs es s sf «as» := ⟨hlen, by rw [dv_fin «as» 0 s sf hval, hlen], fun k x hk => by have := dv_at «as» 0 s sf hval k x hk; simpa only [Nat.zero_add] using this⟩
  obtain ⟨kf, hk1, hk2⟩ : ∃ kf, (∀ (j : Nat) (v : AV) (H' : List AObj), j < kf → «as»[j]? ≠ some (Act4.eff v H')) ∧ (∀ (j : Nat) (l : AObj × AV) (id : Nat), kf ≤ j → «as»[j]? ≠ some (Act4.fresh l id)) := by
    by_cases hex : ∃ i : Nat, ∃ (v : AV) (H' : List AObj), «as»[i]? = some (Act4.eff v H')
    · obtain ⟨i, ⟨v, H', hi⟩, hmin⟩ := least_of hex
      refine ⟨i, fun j v H' hj hh => hmin j hj ⟨v, H', hh⟩, fun j l id hj hh => ?_⟩
      obtain ⟨_, _, _, _, he, _⟩ := hT.at_ i _ hi
      obtain ⟨_, _, _, _, hf, _⟩ := hT.at_ j _ hh
      have := (hc.ef i j he hf).1
      omega
    · exact ⟨«as».length, fun j v H' _ hh => hex ⟨j, v, H', hh⟩, fun j l id hj hh => by rw [List.getElem?_eq_none hj] at hh; cases hh⟩
  obtain ⟨e1, hw1, hp1⟩ := pc_start (Hc := Hc) hT hk1 hk2 hs ops.size
  rw [← hw1]
  have fin : ∀ (listed : Array Bool) (e : Env) (a : Act), (∀ j, j < ops.size → isIn listed j = true) → PC c Hc ops «as» s sf kf listed e a → lift c Q .normal a e.w := by
    intro listed e a hall hp
    have hsl : ∀ t, sget sf.sl t = sget (slL sf s ops listed) t := fun t => by
      by_cases hex : ∃ j, j < ops.size ∧ dstOf ops j = some t
      · obtain ⟨j, h1, h2⟩ := hex
        rw [slL_in h1 (hall j h1) h2]
      · rw [slL_out (fun j h1 _ h2 => hex ⟨j, h1, h2⟩), hT.fin]
        have := stA_between (ops := ops) («as» := «as») (s := s) (k := 0) (t := t) ops.size (fun j _ h1 h2 => hex ⟨j, by omega, h2⟩)
        rw [Nat.zero_add, stA_zero] at this
        exact this
    have hH : sf.H = e.H := by
      have hf : sf.H = (stA ops «as» s ops.size).H := by rw [hT.fin]; rfl
      rw [hf]
      rcases hp.ph with ⟨k, g1, g2, g3, g4, g5⟩ | ⟨g1, g2, g3, g4⟩
      · rw [g1]
        have hcase : ∀ d, (stA ops «as» s (k + d)).H = (stA ops «as» s k).H := fun d => stA_same d (fun j y q1 q2 q3 q4 => by
          have h1 := g5 j y q1 q3 q4
          rw [hall j (by have := lt_of_get? q3; omega)] at h1; cases h1)
        rcases Nat.lt_or_ge k ops.size with hki | hki
        · have := hcase (ops.size - k)
          rwa [show k + (ops.size - k) = ops.size by omega] at this
        · have hover : ∀ d, (stA ops «as» s (ops.size + d)).H = (stA ops «as» s ops.size).H := fun d => stA_same d (fun j y q1 q2 q3 q4 => by have := lt_of_get? q3; omega)
          have := hover (k - ops.size)
          rw [show ops.size + (k - ops.size) = k by omega] at this
          exact this.symm
      · have hno : ∀ (j : Nat) (v : AV) (H' : List AObj), «as»[j]? ≠ some (Act4.eff v H') := fun j v H' hh => by
          have := g1 j v H' hh
          rw [hall j (by have := lt_of_get? hh; omega)] at this; cases this
        rcases Nat.lt_or_ge ops.size kf with hq | hq
        · have := all_fresh (e := e) hT (kf := kf) (i := kf) hk1 hk2 (fun j v H' _ => hno j v H') (Nat.le_refl _) g2 g3 (fun k l id hk => (g4 k l id hk).1 (hall k (by have := lt_of_get? hk; omega)))
          rw [this]
          have hover : ∀ d, (stA ops «as» s (ops.size + d)).H = (stA ops «as» s ops.size).H := fun d => stA_same d (fun j y q1 q2 q3 q4 => by have := lt_of_get? q3; omega)
          have := hover (kf - ops.size)
          rw [show ops.size + (kf - ops.size) = kf by omega] at this
          exact this.symm
        · exact (all_fresh (e := e) hT hk1 hk2 (fun j v H' _ => hno j v H') hq g2 g3 (fun k l id hk => (g4 k l id hk).1 (hall k (by have := lt_of_get? hk; omega)))).symm
    refine ⟨.normal, sf, e, hQ, rfl, hp.sim.congr hsl hH ?_, rfl⟩
    rw [hT.fin]; exact stA_df ops «as» s ops.size
  have key : ∀ (fuel : Nat) (listed : Array Bool) (e : Env) (a : Act), left listed ops.size ≤ fuel → listed.size = ops.size → Closed ops (Region.before ops) listed → PC c Hc ops «as» s sf kf listed e a →
      wpAnyIn (FW c.r) 0 c.P .any ops (lift c Q) fuel listed a e.w := by
    intro fuel
    have hready : ∀ (listed : Array Bool), listed.size = ops.size → Region.ready .any ops listed = [] → ∀ j, j < ops.size → isIn listed j = true := by
      intro listed hsz hnone j
      induction j using Nat.strongRecOn with
      | _ n ihn =>
        intro hn
        cases hb : isIn listed n with
        | true => rfl
        | false =>
          have : n ∈ Region.ready .any ops listed := (mem_ready' hsz).2 ⟨hn, hb, fun o ho ed he hbd => by
            have := hc.edges n o ho ed he hbd
            exact ihn ed.on this (by omega)⟩
          rw [hnone] at this; cases this
    induction fuel with
    | zero =>
      intro listed e a hf hsz hcl hp
      have hall := left_zero (listed := listed) ops.size (by omega)
      refine ⟨?_, fin listed e a hall hp⟩
      apply List.eq_nil_iff_forall_not_mem.2
      intro i hi
      obtain ⟨h1, h2, _⟩ := (mem_ready' hsz).1 hi
      rw [hall i h1] at h2; cases h2
    | succ fuel ih =>
      intro listed e a hf hsz hcl hp
      refine ⟨fun hnone => fin listed e a (hready listed hsz hnone) hp, fun i hi => ?_⟩
      obtain ⟨hin, hif, _⟩ := (mem_ready' hsz).1 hi
      refine pc_step hT hc rfl hHc hk1 hk2 hsz hcl hi hp (fun e' a' hp' => ih _ e' a' ?_ (by simpa using hsz) (closedC hc hsz hcl hi) hp')
      have := left_set (by omega) hif ops.size hin; omega
  refine key ops.size (Array.replicate ops.size false) e1 a ?_ (by simp) (fun j k _ _ h => ?_) hp1
  · rw [left_init ops.size ops.size (Nat.le_refl _)]; exact Nat.le_refl _
  · unfold isIn at h; rw [Array.getD_eq_getD_getElem?, Array.getElem?_replicate] at h; split at h <;> cases h
end main
theorem lst_iff {lb ls : Array Bool} {m n : Nat} (h3 : ∀ j, j < m → isIn lb j = isIn ls j) (h4 : ∀ j, m ≤ j → isIn lb j = false) (hall : ∀ j, j < m → isIn ls j = true) : ∀ j, j < n → (isIn lb j = true ↔ j < m) := by
  intro j _
  constructor
  · intro q
    rcases Nat.lt_or_ge j m with k | k
    · exact k
    · rw [h4 j k] at q; cases q
  · intro q; rw [h3 j q]; exact hall j q
theorem any_split {F : Fence} {n : Nat} {P : Program} {big small : Array Oper} {b : Array Nat} {m : Nat} (hc : Checked big b m) (hs : small.size = m) (hsm : ∀ i, i < m → small[i]? = big[i]?) (hg : ∀ (i : Nat) o, i < m → big[i]? = some o → o.guard = none)
    {Q Q1 : Exit → Act → World → Prop} (hq : ∀ a w, Q1 .normal a w → wpOpsIn F n P big Q (List.range' m (big.size - m)) a w) (hq2 : ∀ x a w, x ≠ .normal → Q1 x a w → Q x a w) :
    ∀ (fs fb : Nat) (ls lb : Array Bool) (a : Act) (w : World), ls.size = m → lb.size = big.size → (∀ j, j < m → isIn lb j = isIn ls j) → (∀ j, m ≤ j → isIn lb j = false) → Closed big b lb → left lb big.size ≤ fb → left ls m ≤ fs →
      wpAnyIn F n P .any small Q1 fs ls a w → wpAnyIn F n P .any big Q fb lb a w := by
  intro fs
  induction fs with
  | zero =>
    intro fb ls lb a w h1 h2 h3 h4 hcl hf hfs h
    have hall := left_zero (listed := ls) m (by omega)
    have hmn := hc.le
    exact tail_forced hc (big.size - m) m fb lb a w (by omega) (Nat.le_refl _) h2 hcl (lst_iff h3 h4 hall) hf (hq a w h.2)
  | succ fs ih =>
    intro fb ls lb a w h1 h2 h3 h4 hcl hf hfs h
    have hmn := hc.le
    by_cases hall : ∀ j, j < m → isIn ls j = true
    · have hnone : Region.ready .any small ls = [] := by
        apply List.eq_nil_iff_forall_not_mem.2
        intro i hi
        obtain ⟨g1, g2, _⟩ := (mem_ready' (by rw [h1, hs])).1 hi
        rw [hall i (by omega)] at g2; cases g2
      exact tail_forced hc (big.size - m) m fb lb a w (by omega) (Nat.le_refl _) h2 hcl (lst_iff h3 h4 hall) hf (hq a w (h.1 hnone))
    · obtain ⟨j0, hj0, hjm⟩ : ∃ j, (j < m ∧ isIn ls j = false) ∧ ∀ k, k < j → isIn ls k = true := by
        have hex : ∃ j, j < m ∧ isIn ls j = false := by
          apply Classical.byContradiction
          intro hn
          exact hall fun j hj => by
            cases hb : isIn ls j with
            | true => rfl
            | false => exact absurd ⟨j, hj, hb⟩ hn
        obtain ⟨j, hj, hmin⟩ := least_of hex
        exact ⟨j, hj, fun k hk => by
          cases hb : isIn ls k with
          | true => rfl
          | false => exact absurd ⟨by omega, hb⟩ (hmin k hk)⟩
      have hbig0 : isIn lb j0 = false := by rw [h3 j0 hj0.1]; exact hj0.2
      have hr0 : j0 ∈ Region.ready .any big lb := (mem_ready' h2).2 ⟨by omega, hbig0, fun o ho ed he hbd => by
        have := hc.edges j0 o ho ed he hbd
        rw [h3 ed.on (by omega)]; exact hjm ed.on this⟩
      cases fb with
      | zero =>
        have := left_zero (listed := lb) big.size (by omega) j0 (by omega)
        rw [hbig0] at this; cases this
      | succ fb =>
        refine ⟨fun hn => (by rw [hn] at hr0; cases hr0), fun i hi => ?_⟩
        obtain ⟨g1, g2, g3⟩ := (mem_ready' h2).1 hi
        have him : i < m := by
          rcases Nat.lt_or_ge i m with k | k
          · exact k
          · have := ready_before hc h2 hcl hi (show j0 < big.size by omega) (hc.tail i j0 g1 k (by omega))
            rw [hbig0] at this; cases this
        have hio : isIn ls i = false := by rw [← h3 i him]; exact g2
        have his : i ∈ Region.ready .any small ls := (mem_ready' (by rw [h1, hs])).2 ⟨by omega, hio, fun o ho ed he hbd => by
          have ho' : big[i]? = some o := by rw [← hsm i him]; exact ho
          have := hc.edges i o ho' ed he hbd
          rw [← h3 ed.on (by omega)]; exact g3 o ho' ed he hbd⟩
        have hw := h.2 i his
        obtain ⟨o, ho⟩ : ∃ o, big[i]? = some o := ⟨big[i], by simp [g1]⟩
        have hgo := hg i o him ho
        have hwant : ∀ y : Nat → Option Bool, Region.wanted o y = true := fun y => by unfold Region.wanted; rw [hgo]
        unfold wpOpIn at hw ⊢
        rw [hsm i him] at hw
        simp only [ho, hwant, if_true] at hw ⊢
        refine Oper.wpIn_monoQ hq2 (Oper.wpIn_mono (fun a' w' h' => ?_) hw)
        have hls := left_set (by omega) hio m him
        have hlb := left_set (listed := lb) (i := i) (by omega) g2 big.size g1
        refine ih fb (ls.setIfInBounds i true) (lb.setIfInBounds i true) a' w' (by simpa using h1) (by simpa using h2) (fun j hj => ?_) (fun j hj => ?_) (closed_set hc h2 hcl hi) (by omega) (by omega) h'
        · rw [isIn_set (by omega), isIn_set (by omega), h3 j hj]
        · rw [isIn_set (by omega), h4 j hj, Bool.false_or]; simp; omega
/-- **A region whose first m operations come in an order of their own**, and change objects; the rest come behind, in the order of the text. -/
theorem aw_drawcm {c : Ctx} {id : Nat} {Q : AExit → St → Prop} {l l1 l2 : List Oper} (m : Nat) (fs es : List Nat) (Hc : List AObj) {s : St} (hm : c.P.follows .mixedOrders = true) (hl1 : l.take m = l1) (hl2 : l.drop m = l2) (hok : drawOK l.toArray m = true) (hg : l1.all (fun o => o.guard.isNone) = true) (hok2 : drawOKc l1.toArray fs es = true) (hHc : HSub Hc s.H)
    (h : DC c Hc l1.toArray fs es (fun ax s' => (ax = .normal → SeqWP c l.toArray Q m l2 s') ∧ (ax ≠ .normal → Q ax s')) 0 l1 s) : AWP c (.region id l.toArray true) Q s := by
  intro e a hs
  refine wpIn_region_any hm ?_
  have hc := checked_of hok
  have hml : m ≤ l.length := by have := hc.le; simpa using this
  have hsz : l1.toArray.size = m := by subst hl1; simp; omega
  have h0 := any_drawc fs es Hc hok2 hHc h hs
  have hno : ∀ (k j : Nat), isIn (Array.replicate k false) j = false := fun k j => by
    unfold isIn; rw [Array.getD_eq_getD_getElem?, Array.getElem?_replicate]; split <;> rfl
  refine any_split (small := l1.toArray) hc hsz (fun i hi => ?_) (fun i o hi ho => ?_) (fun a w hq => ?_) (fun x a w hx hq => ?_) _ _ (Array.replicate l1.toArray.size false) (Array.replicate l.toArray.size false) a _ (by simpa using hsz) (by simp) (fun j _ => by rw [hno, hno]) (fun j _ => hno _ j) (fun j k _ _ hj => by rw [hno] at hj; cases hj) (by rw [left_init _ _ (Nat.le_refl _)]; exact Nat.le_refl _) ?_ h0
  · subst hl1; simp [List.getElem?_take_of_lt hi]
  · have hmem : o ∈ l1 := by
      subst hl1
      have : (l.take m)[i]? = some o := by rw [List.getElem?_take_of_lt hi]; simpa using ho
      exact List.mem_of_getElem? this
    have := List.all_eq_true.1 hg o hmem
    simpa using this
  · obtain ⟨ax, s', e', ⟨h1, h2⟩, rfl, hs', hx⟩ := hq
    by_cases hax : ax = .normal
    · subst hax
      have hwp := h1 rfl (by simpa using hl2) e' a hs'
      have hl : l2.length = l.toArray.size - m := by subst hl2; simp
      rw [hl] at hwp
      exact hwp
    · cases ax with
      | normal => exact absurd rfl hax
      | exit id => cases hx
      | goto l => cases hx
      | ret => cases hx
      | panic v => obtain ⟨u, hu, _⟩ := hx; cases hu
  · obtain ⟨ax, s', e', ⟨h1, h2⟩, rfl, hs', hx'⟩ := hq
    refine ⟨ax, s', e', h2 (fun e1 => ?_), rfl, hs', hx'⟩
    subst e1
    exact hx hx'
  · rw [hsz, left_init _ _ (by omega)]; exact Nat.le_refl _
end Go.Ab
namespace Go.Ab
open Go.ChangeShapes Go.WideShapes
variable [Tabs]
def Sh.bnd : (s : Sh) → s.den → Prop
  | .int _, _ => True
  | .bool, _ => True
  | .str, _ => True
  | .unit, _ => True
  | .two a b, x => a.bnd x.1 ∧ b.bnd x.2
  | .sl s, x => List.length (α := s.den) x ≤ maxLen ∧ ∀ y : s.den, List.Mem y x → s.bnd y
section
variable {H : Type} {enc : TypeId × Value → H} {P : Program} {w : World} {base : Nat} {spare : Nat → Bool} {held : Bool}
theorem fs_readB {g : TypeId → Option Sh} {cs : List Value}
    (ih : ∀ {t : TypeId} {s : Sh} {k : Nat} {cs : List Value} {x : DataW H × List MemPlace}, g t = some s → DataW.trod enc P w base spare held k t cs = some x → ∃ y : s.den, RepL (env0 w) (s.av y) cs ∧ (∀ c ∈ cs, isCell c = true) ∧ s.bnd y) :
    ∀ {fs : List Field} {o : Nat} {s : Sh}, fsSh P g fs o = some s → cs.length = o + s.size →
      (∀ f ∈ fs, ∃ (k : Nat) (x : DataW H × List MemPlace), DataW.trod enc P w base spare held k f.type ((cs.drop f.offset).take (P.cellsOf f.type)) = some x) → ∃ y : s.den, RepL (env0 w) (s.av y) (cs.drop o) ∧ (∀ c ∈ cs.drop o, isCell c = true) ∧ s.bnd y
  | [], o, s, h, hl, _ => by
    simp only [fsSh, Option.some.injEq] at h; subst h
    have : cs.drop o = [] := List.drop_eq_nil_of_le (by simp only [Sh.size] at hl; omega)
    rw [this]; exact ⟨(), RepL.nil, by simp, trivial⟩
  | f :: r, o, s, h, hl, hr => by
    unfold fsSh at h
    split at h
    · rename_i a b ha hb
      split at h
      · rename_i hc
        obtain ⟨ho, hcs⟩ := hc
        simp only [Option.some.injEq] at h; subst h
        obtain ⟨k, x, hx⟩ := hr f (by simp)
        rw [ho, hcs] at hx
        rw [hcs] at hb
        obtain ⟨y1, r1, c1, b1⟩ := ih ha hx
        obtain ⟨y2, r2, c2, b2⟩ := fs_readB ih hb (by simp only [Sh.size] at hl; omega) (fun q hq => hr q (List.mem_cons_of_mem _ hq))
        have e : cs.drop o = (cs.drop o).take a.size ++ cs.drop (o + a.size) := by
          rw [← List.drop_drop]; exact (List.take_append_drop _ _).symm
        rw [e]
        refine ⟨(y1, y2), RepL.append r1 r2, fun c hm => ?_, b1, b2⟩
        rcases List.mem_append.1 hm with h | h
        · exact c1 c h
        · exact c2 c h
      · cases h
    · cases h
theorem ar_readB {s : Sh} {e : TypeId} {cs : List Value} (hcs : P.cellsOf e = s.size)
    (ih : ∀ {k : Nat} {cs : List Value} {x : DataW H × List MemPlace}, DataW.trod enc P w base spare held k e cs = some x → ∃ y : s.den, RepL (env0 w) (s.av y) cs ∧ (∀ c ∈ cs, isCell c = true) ∧ s.bnd y) :
    ∀ {m j : Nat}, cs.length = j * s.size + (arSh s m).size →
      (∀ i, i < j + m → ∃ (k : Nat) (x : DataW H × List MemPlace), DataW.trod enc P w base spare held k e ((cs.drop (i * P.cellsOf e)).take (P.cellsOf e)) = some x) → ∃ y : (arSh s m).den, RepL (env0 w) ((arSh s m).av y) (cs.drop (j * s.size)) ∧ (∀ c ∈ cs.drop (j * s.size), isCell c = true) ∧ (arSh s m).bnd y
  | 0, j, hl, _ => by
    have : cs.drop (j * s.size) = [] := List.drop_eq_nil_of_le (by simp only [arSh, Sh.size] at hl; omega)
    rw [this]; exact ⟨(), RepL.nil, by simp, trivial⟩
  | m + 1, j, hl, hr => by
    obtain ⟨k, x, hx⟩ := hr j (by omega)
    rw [hcs] at hx
    obtain ⟨y1, r1, c1, b1⟩ := ih hx
    obtain ⟨y2, r2, c2, b2⟩ := ar_readB hcs ih (m := m) (j := j + 1) (by simp only [arSh, Sh.size] at hl; rw [Nat.add_mul]; omega) (fun i hi => hr i (by omega))
    have e : cs.drop (j * s.size) = (cs.drop (j * s.size)).take s.size ++ cs.drop ((j + 1) * s.size) := by
      rw [Nat.add_mul, Nat.one_mul, ← List.drop_drop]; exact (List.take_append_drop _ _).symm
    rw [e]
    refine ⟨(y1, y2), RepL.append r1 r2, fun c hm => ?_, b1, b2⟩
    rcases List.mem_append.1 hm with h | h
    · exact c1 c h
    · exact c2 c h
/-- **What a reading gives.** -/
theorem sh_readB (hsr : ∀ b, spare b = true) : ∀ (n : Nat) {t : TypeId} {s : Sh} {k : Nat} {cs : List Value} {x : DataW H × List MemPlace}, shOf P n t = some s → DataW.trod enc P w base spare held k t cs = some x →
    ∃ y : s.den, RepL (env0 w) (s.av y) cs ∧ (∀ c ∈ cs, isCell c = true) ∧ s.bnd y
  | 0, _, _, _, _, _, h, _ => by cases h
  | n + 1, t, s, k, cs, x, h, hx => by
    unfold shOf at h
    split at h
    · rename_i ik hu
      simp only [Option.some.injEq] at h; subst h
      obtain ⟨m, rfl, _, _⟩ := DataW.trod_int hu hx
      exact ⟨m, RepL.cons (by rw [Rep]) RepL.nil, fun c hc => by simp at hc; subst hc; rfl, trivial⟩
    · rename_i hu
      simp only [Option.some.injEq] at h; subst h
      obtain ⟨m, rfl, _⟩ := DataW.trod_bool hu hx
      exact ⟨m, RepL.cons (by rw [Rep]) RepL.nil, fun c hc => by simp at hc; subst hc; rfl, trivial⟩
    · rename_i hu
      simp only [Option.some.injEq] at h; subst h
      obtain ⟨m, rfl, _, _⟩ := DataW.trod_string hu hx
      exact ⟨m.data.toList, RepL.cons (by rw [Rep]) RepL.nil, fun c hc => by simp at hc; subst hc; rfl, trivial⟩
    · rename_i e hu
      split at h
      · rename_i s1 he
        split at h
        · rename_i hc
          obtain ⟨hfl, hcs⟩ := hc
          simp only [Option.some.injEq] at h; subst h
          rcases Go.Deep.open_slice hu hx with ⟨rfl, _⟩ | ⟨a, len, cap, m, n', D, Pl, rfl, hb, hl, hm, hmm, _, hi⟩
          · refine ⟨([] : List s1.den), RepL.cons ?_ RepL.nil, fun c hc => by simp at hc; subst hc; rfl, Nat.zero_le _, fun z hz => by cases hz⟩
            show Rep _ (.sl s1.size []) _
            rw [Rep]
            exact ⟨none, 0, 0, rfl, rfl, Nat.le_refl _, fun _ => rfl, by simp, fun ad h => by cases h⟩
          · have hlm : len ≤ m := by rw [hmm]; split <;> omega
            have hsp : cap ≠ 0 → a.spot = none := fun h0 => by
              have hmc : m = cap := by rw [hmm, hsr]; rfl
              obtain ⟨cs', hc, _⟩ := hi 0 (by omega)
              obtain ⟨_, hcl, hat⟩ := World.cells?_some hc
              have h1 := hat (i := 0) (by omega)
              rw [Nat.zero_mul] at h1
              have e1 : (a.add 0).add 0 = a := rfl
              rw [e1] at h1
              unfold World.cell? at h1
              cases hq : a.spot with
              | none => rfl
              | some q =>
                exfalso
                rw [hq] at h1
                have h2 : cs'[0]? = none := by
                  rw [← h1]; split <;> rfl
                rw [List.getElem?_eq_none_iff] at h2; omega
            by_cases h0 : cap = 0
            · refine ⟨([] : List s1.den), RepL.cons ?_ RepL.nil, fun c hc => by simp at hc; subst hc; rfl, Nat.zero_le _, fun z hz => by cases hz⟩
              show Rep _ (.sl s1.size []) _
              rw [Rep]
              exact ⟨some a, len, cap, rfl, by simp; omega, hl, fun _ => h0, by simp, fun ad h => ⟨fun h => absurd h0 h, by rw [ElemsAt]; trivial⟩⟩
            have hsp := hsp h0
            obtain ⟨b, off, sp⟩ := a
            simp only at hsp; subst hsp
            have key : ∀ q, q ≤ len → ∃ ys : List s1.den, ys.length = q ∧ ElemsAt (env0 w) (ys.map s1.av) b off ∧ ∀ z ∈ ys, s1.bnd z := by
              intro q
              induction q with
              | zero => intro _; exact ⟨[], rfl, by rw [List.map_nil, ElemsAt]; trivial, fun z hz => by cases hz⟩
              | succ q ihq =>
                intro hq
                obtain ⟨ys, hy, hel, hbn⟩ := ihq (by omega)
                obtain ⟨cs', hc, ht'⟩ := hi q (by omega)
                obtain ⟨z, hz, hz1, hz2⟩ := sh_readB hsr n he ht'
                obtain ⟨_, hcl, hat⟩ := World.cells?_some hc
                refine ⟨ys ++ [z], by simp [hy], ?_, fun u hu => by rcases List.mem_append.1 hu with h | h; exact hbn u h; (rw [List.mem_singleton] at h; subst h; exact hz2)⟩
                rw [List.map_append]
                refine ElemsAt.append (sz := s1.size) hel (fun c hm => by obtain ⟨u, _, rfl⟩ := List.mem_map.1 hm; exact s1.av_len u) ?_
                rw [List.map_cons, List.map_nil, ElemsAt, ElemsAt]
                refine ⟨cells_read hz hz1 fun i hi => ?_, trivial⟩
                rw [List.length_map, hy]
                have hthis := hat (i := i) (by omega)
                rw [Addr.add_lit, Addr.add_lit, hcs] at hthis
                exact hthis
            obtain ⟨ys, hy, hel, hbn⟩ := key len (Nat.le_refl _)
            refine ⟨ys, RepL.cons ?_ RepL.nil, fun c hc => by simp at hc; subst hc; rfl, by rw [hy]; omega, hbn⟩
            rw [Rep]
            exact ⟨some ⟨b, off, none⟩, len, cap, rfl, by simp [hy], hl, fun h => (by cases h), fun c hm => by obtain ⟨u, _, rfl⟩ := List.mem_map.1 hm; exact s1.av_len u, fun ad had => by cases had; exact ⟨fun _ => rfl, hel⟩⟩
        · cases h
      · cases h
    · rename_i fs hu
      split at h
      · rename_i s1 hf
        split at h
        · rename_i hc
          simp only [Option.some.injEq] at h; subst h
          obtain ⟨xs, n', _, _, hlen, hxl, hfx⟩ := DataW.trod_struct hu hx
          have := fs_readB (g := shOf P n) (cs := cs) (fun h1 h2 => sh_readB hsr n h1 h2) hf (by omega) (fun f hm => by
            obtain ⟨i, hi, he⟩ := List.getElem_of_mem hm
            have hi' : i < xs.length := by rw [hxl]; simpa using hi
            exact ⟨n', xs[i], (hfx i f (by rw [← he]; simp)).trans (List.getElem?_eq_getElem hi')⟩)
          simpa using this
        · cases h
      · cases h
    · rename_i m e hu
      split at h
      · rename_i s1 he
        split at h
        · rename_i hc
          obtain ⟨hcs, hct⟩ := hc
          simp only [Option.some.injEq] at h; subst h
          obtain ⟨xs, n', _, _, hlen, hxl, hfx⟩ := DataW.trod_array hu hx
          have := ar_readB (s := s1) (e := e) (cs := cs) hcs (fun h2 => sh_readB hsr n he h2) (m := m) (j := 0) (by omega) (fun i hi => by
            have hi' : i < xs.length := by omega
            exact ⟨n', xs[i], (hfx i (by omega)).trans (List.getElem?_eq_getElem hi')⟩)
          simpa using this
        · cases h
      · cases h
    · cases h
theorem sh_argB (hsr : ∀ b, spare b = true) (n : Nat) {t : TypeId} {s : Sh} {v : Value} {d : DataW H} {ps : List MemPlace} (hs : shOf P n t = some s) (h : DataW.Trod enc P w base spare held t v d ps) :
    ∃ y : s.den, RepL (env0 w) (s.av y) v.cells.toList ∧ (∀ c ∈ v.cells.toList, isCell c = true) ∧ s.bnd y := by
  obtain ⟨k, hk⟩ := h
  exact sh_readB hsr n hs hk
end
end Go.Ab
namespace Hd
open Ni (inn)
def chg (off long x : Int) : Bool := decide (0 ≤ x) && !inn x (lo off long) (hi off long)
end Hd
namespace Hd
open Ni (inn)
def every (n : Nat) : List Int := (List.range n).map fun (i : Nat) => (i : Int)
end Hd
namespace Hd
open Ni (inn)
theorem mem_every {n : Nat} {x : Int} : x ∈ every n ↔ 0 ≤ x ∧ x < n := by
  unfold every
  rw [List.mem_map]
  constructor
  · rintro ⟨m, hm, rfl⟩; rw [List.mem_range] at hm; omega
  · rintro ⟨h1, h2⟩; exact ⟨x.toNat, by rw [List.mem_range]; omega, by omega⟩
end Hd
namespace Br
open Ni (inn)
open Hd (every getD_at mem_every lex lex_irr lex_trans lex_total)
theorem plays_nodup (s : Sto) : (plays s).Nodup := (plays_perm s).nodup_iff.2 (onceK_nodup (Nat.le_refl _))
end Br
namespace Vr
def ld : List Int → List Int → Nat
  | [], b => b.length
  | a, [] => a.length
  | x :: a, y :: b => if x = y then ld a b else 1 + min (min (ld a b) (ld a (y :: b))) (ld (x :: a) b)
termination_by a b => a.length + b.length
theorem ld_nil (b : List Int) : ld [] b = b.length := by unfold ld; rfl
theorem ld_nil' (a : List Int) : ld a [] = a.length := by cases a <;> (unfold ld; rfl)
theorem ld_cons (x y : Int) (a b : List Int) : ld (x :: a) (y :: b) = if x = y then ld a b else 1 + min (min (ld a b) (ld a (y :: b))) (ld (x :: a) b) := by
  conv => lhs; unfold ld
inductive Ed : Nat → List Int → List Int → Prop
  | nil : Ed 0 [] []
  | keep (x : Int) {n : Nat} {a b : List Int} : Ed n a b → Ed n (x :: a) (x :: b)
  | chg (x y : Int) {n : Nat} {a b : List Int} : Ed n a b → Ed (n + 1) (x :: a) (y :: b)
  | add (y : Int) {n : Nat} {a b : List Int} : Ed n a b → Ed (n + 1) a (y :: b)
  | drop (x : Int) {n : Nat} {a b : List Int} : Ed n a b → Ed (n + 1) (x :: a) b
theorem Ed.symm {n : Nat} {a b : List Int} (h : Ed n a b) : Ed n b a := by
  induction h with
  | nil => exact .nil
  | keep x _ ih => exact .keep x ih
  | chg x y _ ih => exact .chg y x ih
  | add y _ ih => exact .drop y ih
  | drop x _ ih => exact .add x ih
theorem Ed.trans : ∀ (N : Nat) {n m : Nat} {a b c : List Int}, a.length + b.length + c.length ≤ N → Ed n a b → Ed m b c → ∃ k, k ≤ n + m ∧ Ed k a c := by
  intro N
  induction N with
  | zero =>
    intro n m a b c hN h1 h2
    cases h1 with
    | nil => cases h2 with
      | nil => exact ⟨0, Nat.zero_le _, .nil⟩
      | add y h => simp at hN
    | keep x h => simp at hN
    | chg x y h => simp at hN
    | add y h => simp at hN
    | drop x h => simp at hN
  | succ N ih =>
    intro n m a b c hN h1 h2
    cases h2 with
    | nil => exact ⟨n, Nat.le_add_right _ _, h1⟩
    | add y h2 =>
      obtain ⟨k, hk, e⟩ := ih (by simp at hN; omega) h1 h2
      exact ⟨k + 1, by omega, .add y e⟩
    | keep z h2 =>
      cases h1 with
      | keep x h1 =>
        obtain ⟨k, hk, e⟩ := ih (by simp at hN; omega) h1 h2
        exact ⟨k, hk, .keep _ e⟩
      | chg x y h1 =>
        obtain ⟨k, hk, e⟩ := ih (by simp at hN; omega) h1 h2
        exact ⟨k + 1, by omega, .chg _ _ e⟩
      | add y h1 =>
        obtain ⟨k, hk, e⟩ := ih (by simp at hN; omega) h1 h2
        exact ⟨k + 1, by omega, .add _ e⟩
      | drop x h1 =>
        obtain ⟨k, hk, e⟩ := ih (by simp at hN ⊢; omega) h1 (Ed.keep z h2)
        exact ⟨k + 1, by omega, .drop _ e⟩
    | chg z w h2 =>
      cases h1 with
      | keep x h1 =>
        obtain ⟨k, hk, e⟩ := ih (by simp at hN; omega) h1 h2
        exact ⟨k + 1, by omega, .chg _ _ e⟩
      | chg x y h1 =>
        obtain ⟨k, hk, e⟩ := ih (by simp at hN; omega) h1 h2
        exact ⟨k + 1, by omega, .chg _ _ e⟩
      | add y h1 =>
        obtain ⟨k, hk, e⟩ := ih (by simp at hN; omega) h1 h2
        exact ⟨k + 1, by omega, .add _ e⟩
      | drop x h1 =>
        obtain ⟨k, hk, e⟩ := ih (by simp at hN ⊢; omega) h1 (Ed.chg z w h2)
        exact ⟨k + 1, by omega, .drop _ e⟩
    | drop z h2 =>
      cases h1 with
      | keep x h1 =>
        obtain ⟨k, hk, e⟩ := ih (by simp at hN; omega) h1 h2
        exact ⟨k + 1, by omega, .drop _ e⟩
      | chg x y h1 =>
        obtain ⟨k, hk, e⟩ := ih (by simp at hN; omega) h1 h2
        exact ⟨k + 1, by omega, .drop _ e⟩
      | add y h1 =>
        obtain ⟨k, hk, e⟩ := ih (by simp at hN; omega) h1 h2
        exact ⟨k, by omega, e⟩
      | drop x h1 =>
        obtain ⟨k, hk, e⟩ := ih (by simp at hN ⊢; omega) h1 (Ed.drop z h2)
        exact ⟨k + 1, by omega, .drop _ e⟩
theorem Ed.refl : ∀ a : List Int, Ed 0 a a
  | [] => .nil
  | x :: a => .keep x (Ed.refl a)
theorem Ed.eq {n : Nat} {a b : List Int} (h : Ed n a b) : n = 0 → a = b := by
  induction h with
  | nil => intro _; rfl
  | keep x _ ih => intro h; rw [ih h]
  | chg x y _ _ => intro h; cases h
  | add y _ _ => intro h; cases h
  | drop x _ _ => intro h; cases h
theorem ed_nil : ∀ b : List Int, Ed b.length [] b
  | [] => .nil
  | y :: b => .add y (ed_nil b)
theorem ed_nil' : ∀ b : List Int, Ed b.length b []
  | [] => .nil
  | y :: b => .drop y (ed_nil' b)
theorem ld_ed : ∀ (N : Nat) (a b : List Int), a.length + b.length ≤ N → Ed (ld a b) a b := by
  intro N
  induction N with
  | zero =>
    intro a b h
    have ha : a = [] := List.length_eq_zero_iff.1 (by omega)
    have hb : b = [] := List.length_eq_zero_iff.1 (by omega)
    subst ha; subst hb; rw [ld_nil]; exact .nil
  | succ N ih =>
    intro a b h
    cases a with
    | nil => rw [ld_nil]; exact ed_nil b
    | cons x a =>
      cases b with
      | nil => rw [ld_nil']; exact ed_nil' _
      | cons y b =>
        simp only [List.length_cons] at h
        rw [ld_cons]
        by_cases e : x = y
        · subst e; rw [if_pos rfl]; exact .keep x (ih a b (by omega))
        · rw [if_neg e]
          have h1 := ih a b (by omega)
          have h2 := ih a (y :: b) (by simp; omega)
          have h3 := ih (x :: a) b (by simp; omega)
          rcases Nat.le_total (min (ld a b) (ld a (y :: b))) (ld (x :: a) b) with q | q
          · rw [Nat.min_eq_left q]
            rcases Nat.le_total (ld a b) (ld a (y :: b)) with r | r
            · rw [Nat.min_eq_left r, Nat.add_comm]; exact .chg x y h1
            · rw [Nat.min_eq_right r, Nat.add_comm]; exact .drop x h2
          · rw [Nat.min_eq_right q, Nat.add_comm]; exact .add y h3
theorem ed_le {n : Nat} {a b : List Int} (h : Ed n a b) : b.length ≤ a.length + n ∧ a.length ≤ b.length + n := by
  induction h with
  | nil => simp
  | keep x _ ih => simp; omega
  | chg x y _ ih => simp; omega
  | add y _ ih => simp; omega
  | drop x _ ih => simp; omega
theorem ld_le : ∀ (N : Nat) {n : Nat} {a b : List Int}, a.length + b.length ≤ N → Ed n a b → ld a b ≤ n := by
  intro N
  induction N with
  | zero =>
    intro n a b h e
    have ha : a = [] := List.length_eq_zero_iff.1 (by omega)
    have hb : b = [] := List.length_eq_zero_iff.1 (by omega)
    subst ha; subst hb; rw [ld_nil]; simp
  | succ N ih =>
    intro n a b h e
    cases a with
    | nil => rw [ld_nil]; have := (ed_le e).1; simpa using this
    | cons x a =>
      cases b with
      | nil => rw [ld_nil']; have := (ed_le e).2; simpa using this
      | cons y b =>
        simp only [List.length_cons] at h
        rw [ld_cons]
        by_cases q : x = y
        · subst q; rw [if_pos rfl]
          have H : ∃ k, k ≤ n ∧ Ed k a b := by
            cases e with
            | keep _ e => exact ⟨_, Nat.le_refl _, e⟩
            | chg _ _ e => exact ⟨_, Nat.le_succ _, e⟩
            | add _ e =>
              obtain ⟨k, hk, e2⟩ := Ed.trans _ (Nat.le_refl _) (Ed.add x (Ed.refl a)) e
              exact ⟨k, by omega, e2⟩
            | drop _ e =>
              obtain ⟨k, hk, e2⟩ := Ed.trans _ (Nat.le_refl _) e (Ed.drop x (Ed.refl b))
              exact ⟨k, by omega, e2⟩
          obtain ⟨k, hk, e2⟩ := H
          exact Nat.le_trans (ih (by omega) e2) hk
        · rw [if_neg q]
          cases e with
          | keep _ e => exact absurd rfl q
          | chg _ _ e => have := ih (by omega) e; omega
          | add _ e => have := ih (by simp; omega) e; omega
          | drop _ e => have := ih (by simp; omega) e; omega
def dist (l m : List Int) : Nat := ld l.reverse m.reverse
theorem dist_self (l : List Int) : dist l l = 0 := Nat.le_zero.1 (ld_le _ (Nat.le_refl _) (Ed.refl _))
theorem dist_comm (l m : List Int) : dist l m = dist m l :=
  Nat.le_antisymm (ld_le _ (Nat.le_refl _) (ld_ed _ _ _ (Nat.le_refl _)).symm) (ld_le _ (Nat.le_refl _) (ld_ed _ _ _ (Nat.le_refl _)).symm)
theorem dist_tri (l m n : List Int) : dist l n ≤ dist l m + dist m n := by
  obtain ⟨k, hk, e⟩ := Ed.trans _ (Nat.le_refl _) (ld_ed _ l.reverse m.reverse (Nat.le_refl _)) (ld_ed _ m.reverse n.reverse (Nat.le_refl _))
  exact Nat.le_trans (ld_le _ (Nat.le_refl _) e) hk
theorem dist_pos {l m : List Int} (h : l ≠ m) : 1 ≤ dist l m := by
  rcases Nat.eq_zero_or_pos (dist l m) with q | q
  · have e := ld_ed _ l.reverse m.reverse (Nat.le_refl _)
    exact absurd (List.reverse_inj.1 (e.eq q)) h
  · exact q
theorem dist_le (l m : List Int) : dist l m ≤ l.length + m.length := by
  have h : ∀ a b : List Int, Ed (a.length + b.length) a b := by
    intro a b
    induction a with
    | nil => simpa using ed_nil b
    | cons x a ih => rw [List.length_cons, Nat.add_right_comm]; exact .drop x ih
  have := ld_le _ (Nat.le_refl _) (h l.reverse m.reverse)
  simpa [dist] using this
theorem dist_snoc (l m : List Int) (x y : Int) : dist (l ++ [x]) (m ++ [y]) = if x = y then dist l m else 1 + min (min (dist l m) (dist l (m ++ [y]))) (dist (l ++ [x]) m) := by
  unfold dist
  rw [List.reverse_append, List.reverse_append]
  simp only [List.reverse_cons, List.reverse_nil, List.nil_append, List.singleton_append, ld_cons]
theorem dist_nil (m : List Int) : dist [] m = m.length := by unfold dist; rw [List.reverse_nil, ld_nil, List.length_reverse]
theorem dist_nil' (m : List Int) : dist m [] = m.length := by unfold dist; rw [List.reverse_nil, ld_nil', List.length_reverse]
def cost (K : List (List Int)) (l : List Int) : Nat := (K.map (dist l)).sum
theorem cost_lt {K : List (List Int)} {p l : List Int} (hl : l ≠ p) (h : K.length < 2 * (K.filter (· == p)).length) : cost K p < cost K l := by
  have key : ∀ K : List (List Int), cost K p + dist l p * (K.filter (· == p)).length ≤ cost K l + dist l p * (K.length - (K.filter (· == p)).length) := by
    intro K
    induction K with
    | nil => simp [cost]
    | cons x K ih =>
      have hf : (K.filter (· == p)).length ≤ K.length := List.length_filter_le _ _
      by_cases e : x = p
      · subst e
        have e1 : cost (x :: K) x = cost K x := by simp [cost, dist_self]
        have e2 : cost (x :: K) l = dist l x + cost K l := by simp [cost]
        rw [List.filter_cons_of_pos (by simp), e1, e2, List.length_cons, List.length_cons]
        rw [show K.length + 1 - ((K.filter (· == x)).length + 1) = K.length - (K.filter (· == x)).length by omega, Nat.mul_add, Nat.mul_one]
        omega
      · have e1 : cost (x :: K) p = dist p x + cost K p := by simp [cost]
        have e2 : cost (x :: K) l = dist l x + cost K l := by simp [cost]
        have h1 := dist_tri p l x
        rw [dist_comm p l] at h1
        rw [List.filter_cons_of_neg (by simpa using e), e1, e2, List.length_cons]
        rw [show K.length + 1 - (K.filter (· == p)).length = K.length - (K.filter (· == p)).length + 1 by omega, Nat.mul_add, Nat.mul_one]
        omega
  have h1 := key K
  have h2 := dist_pos hl
  obtain ⟨f, hf⟩ : ∃ f, f = (K.filter (· == p)).length := ⟨_, rfl⟩
  rw [← hf] at h h1
  obtain ⟨g, hg⟩ : ∃ g, g = K.length - f := ⟨_, rfl⟩
  rw [← hg] at h1
  have h3 : g + 1 ≤ f := by omega
  have h4 : dist l p * (g + 1) ≤ dist l p * f := Nat.mul_le_mul_left _ h3
  rw [Nat.mul_add, Nat.mul_one] at h4
  omega
end Vr
namespace Vr
open Hd (every mem_every)
open Ni (inn)
structure Lin where
  lost : Bool
  ws : List Int
structure Bk where
  words : Int
  cps : List (List Lin)
def linB (w : Int) (l : List Int) : Bool := decide (l.length ≤ 4) && l.all fun x => inn x 0 (w - 1)
def lnB (w : Int) (x : Lin) : Bool := linB w x.ws && !(x.lost && !x.ws.isEmpty)
def copB (w : Int) (n : Nat) (c : List Lin) : Bool := decide (c.length = n) && c.all (lnB w)
def widB (b : Bk) : Nat := (b.cps.headD []).length
def bkB (b : Bk) : Bool := inn b.words 1 3 && (inn b.cps.length 1 5 && (inn (widB b : Nat) 1 4 && b.cps.all (copB b.words (widB b))))
def wrds (n : Nat) : Nat → List (List Int)
  | 0 => [[]]
  | k + 1 => (every n).flatMap fun a => (wrds n k).map (a :: ·)
theorem every_nodup (n : Nat) : (every n).Nodup := by
  unfold every
  rw [List.nodup_iff_pairwise_ne, List.pairwise_map]
  exact List.nodup_range.imp fun h q => h (Int.ofNat_inj.1 q)
theorem mem_wrds {n : Nat} : ∀ {k : Nat} {l : List Int}, l ∈ wrds n k ↔ l.length = k ∧ ∀ x ∈ l, 0 ≤ x ∧ x < n
  | 0, l => by
    unfold wrds
    rw [List.mem_singleton]
    constructor
    · rintro rfl; simp
    · rintro ⟨h, _⟩; exact List.length_eq_zero_iff.1 h
  | k + 1, l => by
    unfold wrds
    rw [List.mem_flatMap]
    constructor
    · rintro ⟨a, ha, h⟩
      obtain ⟨m, hm, rfl⟩ := List.mem_map.1 h
      obtain ⟨h1, h2⟩ := mem_wrds.1 hm
      have ha := mem_every.1 ha
      refine ⟨by simp [h1], fun x hx => ?_⟩
      rcases List.mem_cons.1 hx with rfl | hx
      · exact ha
      · exact h2 x hx
    · rintro ⟨h1, h2⟩
      cases l with
      | nil => cases h1
      | cons a l => exact ⟨a, mem_every.2 (h2 a (by simp)), List.mem_map.2 ⟨l, mem_wrds.2 ⟨by simpa using h1, fun x hx => h2 x (by simp [hx])⟩, rfl⟩⟩
theorem wrds_nodup (n : Nat) : ∀ k, (wrds n k).Nodup
  | 0 => by unfold wrds; simp
  | k + 1 => by
    unfold wrds
    rw [List.nodup_iff_pairwise_ne, List.pairwise_flatMap]
    refine ⟨fun a _ => ?_, (every_nodup n).imp fun {a b} hab x hx y hy => ?_⟩
    · rw [List.pairwise_map]
      exact (wrds_nodup n k).imp fun h q => h (by simpa using q)
    · obtain ⟨x, _, rfl⟩ := List.mem_map.1 hx
      obtain ⟨y, _, rfl⟩ := List.mem_map.1 hy
      intro q; exact hab (by simpa using (List.cons.inj q).1)
theorem wrds_len (n : Nat) : ∀ k, (wrds n k).length = n ^ k
  | 0 => rfl
  | k + 1 => by
    unfold wrds
    rw [List.length_flatMap, show (fun a => ((wrds n k).map (a :: ·)).length) = fun _ => n ^ k from funext fun a => by rw [List.length_map, wrds_len n k]]
    rw [List.map_const', List.sum_replicate_nat]
    simp [every, Nat.pow_succ, Nat.mul_comm]
def srch (n k : Nat) (now : List Int) : List (List Int) := (wrds n k).map (now ++ ·)
theorem srch_zero (n : Nat) (now : List Int) : srch n 0 now = [now] := by simp [srch, wrds]
theorem srch_succ (n k : Nat) (now : List Int) : srch n (k + 1) now = (every n).flatMap fun a => srch n k (now ++ [a]) := by
  unfold srch
  rw [wrds, List.map_flatMap]
  congr 1; funext a
  rw [List.map_map]
  refine List.map_congr_left fun l _ => ?_
  simp
theorem srch_nil (n k : Nat) : srch n k [] = wrds n k := by simp [srch]
theorem srch_len (n k : Nat) (now : List Int) : (srch n k now).length = n ^ k := by rw [srch, List.length_map, wrds_len]
theorem flat_get {α β : Type} {f : α → List β} {c : Nat} : ∀ {l : List α} (_ : ∀ x ∈ l, (f x).length = c) {n i : Nat} (hn : n < l.length) (_ : i < c), (l.flatMap f)[n * c + i]? = (f l[n])[i]?
  | [], _, _, _, hn, _ => absurd hn (Nat.not_lt_zero _)
  | x :: l, h, 0, i, _, hi => by
    rw [List.flatMap_cons, Nat.zero_mul, Nat.zero_add, List.getElem?_append_left (by rw [h x (by simp)]; exact hi)]; rfl
  | x :: l, h, n + 1, i, hn, hi => by
    have hx := h x (by simp)
    rw [List.flatMap_cons, List.getElem?_append_right (by rw [hx, Nat.succ_mul]; omega), hx, show (n + 1) * c + i - c = n * c + i by rw [Nat.succ_mul]; omega]
    exact flat_get (fun y hy => h y (by simp [hy])) (by simpa using hn) hi
theorem srch_get {W k n i : Nat} {now y : List Int} (hn : n < W) (h : (srch W k (now ++ [(n : Int)]))[i]? = some y) : (srch W (k + 1) now)[n * W ^ k + i]? = some y := by
  have hl : (every W).length = W := by simp [every]
  have hi : i < W ^ k := by
    have := (List.getElem?_eq_some_iff.1 h).1
    rwa [srch_len] at this
  rw [srch_succ, flat_get (fun x _ => srch_len W k _) (by rw [hl]; exact hn) hi]
  rw [show (every W)[n]'(by rw [hl]; exact hn) = (n : Int) by simp [every]]
  exact h
def lnsK (n k : Nat) : List (List Int) := (List.range k).flatMap (wrds n)
abbrev lns (n : Nat) : List (List Int) := lnsK n 5
theorem mem_lnsK {n k : Nat} {l : List Int} : l ∈ lnsK n k ↔ l.length < k ∧ ∀ x ∈ l, 0 ≤ x ∧ x < n := by
  unfold lnsK
  rw [List.mem_flatMap]
  constructor
  · rintro ⟨j, hj, h⟩
    obtain ⟨h1, h2⟩ := mem_wrds.1 h
    exact ⟨by rw [h1]; exact List.mem_range.1 hj, h2⟩
  · rintro ⟨h1, h2⟩
    exact ⟨l.length, List.mem_range.2 h1, mem_wrds.2 ⟨rfl, h2⟩⟩
theorem lnsK_nodup (n k : Nat) : (lnsK n k).Nodup := by
  unfold lnsK
  rw [List.nodup_iff_pairwise_ne, List.pairwise_flatMap]
  refine ⟨fun a _ => wrds_nodup n a, List.nodup_range.imp fun {a b} hab x hx y hy q => ?_⟩
  subst q
  have h1 := (mem_wrds.1 hx).1
  have h2 := (mem_wrds.1 hy).1
  omega
theorem lnsK_succ (n k : Nat) : lnsK n (k + 1) = lnsK n k ++ wrds n k := by
  unfold lnsK; rw [List.range_succ, List.flatMap_append]; simp
theorem lnsK_len (n k : Nat) : (lnsK n (k + 1)).length = (lnsK n k).length + n ^ k := by rw [lnsK_succ, List.length_append, wrds_len]
theorem lnsK_pre (n j : Nat) : ∀ d, lnsK n j <+: lnsK n (j + d)
  | 0 => List.prefix_refl _
  | d + 1 => (lnsK_pre n j d).trans (by rw [show j + (d + 1) = j + d + 1 by omega, lnsK_succ]; exact List.prefix_append _ _)
theorem lns_at {n k i : Nat} (hk : k < 5) {y : List Int} (h : (wrds n k)[i]? = some y) : (lns n)[(lnsK n k).length + i]? = some y := by
  have hp := lnsK_pre n (k + 1) (5 - (k + 1))
  rw [show k + 1 + (5 - (k + 1)) = 5 by omega] at hp
  obtain ⟨r, hr⟩ := hp
  have hi := (List.getElem?_eq_some_iff.1 h).1
  show (lnsK n 5)[_]? = _
  rw [← hr, lnsK_succ, List.append_assoc, List.getElem?_append_right (Nat.le_add_right _ _), Nat.add_sub_cancel_left, List.getElem?_append_left hi]
  exact h
theorem lnsK_zero (n : Nat) : lnsK n 0 = [] := rfl
theorem pow3 {n k : Nat} (hn : n ≤ 3) (hk : k ≤ 4) : n ^ k ≤ 81 := Nat.le_trans (Nat.pow_le_pow_left hn k) (Nat.le_trans (Nat.pow_le_pow_right (by decide) hk) (by decide))
theorem lns_len {n : Nat} (hn : n ≤ 3) : (lns n).length ≤ 405 := by
  have h0 : (lnsK n 1).length = (lnsK n 0).length + n ^ 0 := lnsK_len n 0
  have h1 : (lnsK n 2).length = (lnsK n 1).length + n ^ 1 := lnsK_len n 1
  have h2 : (lnsK n 3).length = (lnsK n 2).length + n ^ 2 := lnsK_len n 2
  have h3 : (lnsK n 4).length = (lnsK n 3).length + n ^ 3 := lnsK_len n 3
  have h4 : (lnsK n 5).length = (lnsK n 4).length + n ^ 4 := lnsK_len n 4
  have e := lnsK_zero n
  have p0 := pow3 (k := 0) hn (by omega)
  have p1 := pow3 (k := 1) hn (by omega)
  have p2 := pow3 (k := 2) hn (by omega)
  have p3 := pow3 (k := 3) hn (by omega)
  have p4 := pow3 (k := 4) hn (by omega)
  rw [e] at h0
  simp only [List.length_nil] at h0
  show (lnsK n 5).length ≤ 405
  omega
theorem lns_mem_len {n : Nat} {l : List Int} (h : l ∈ lns n) : l.length ≤ 4 := by have := (mem_lnsK.1 h).1; omega
theorem linB_mem {w : Int} (h1 : 1 ≤ w) {l : List Int} (h : linB w l = true) : l ∈ lns w.toNat := by
  unfold linB at h
  rw [Bool.and_eq_true, decide_eq_true_eq, List.all_eq_true] at h
  refine mem_lnsK.2 ⟨by omega, fun x hx => ?_⟩
  have := h.2 x hx
  simp only [inn, Bool.and_eq_true, decide_eq_true_eq] at this
  omega
def fewS (o : List (List Int) × Int) (x : List Int × Int) : List (List Int) × Int :=
  if o.1.isEmpty = true ∨ x.2 < o.2 then ([x.1], x.2) else if x.2 = o.2 then (o.1 ++ [x.1], o.2) else o
def fewK (l : List (List Int × Int)) (k : Nat) : List (List Int) × Int := (l.take k).foldl fewS ([], 0)
abbrev fewV (l : List (List Int × Int)) : List (List Int) × Int := fewK l l.length
theorem fewK_zero (l : List (List Int × Int)) : fewK l 0 = ([], 0) := rfl
theorem fewK_succ {l : List (List Int × Int)} {k : Nat} (h : k < l.length) : fewK l (k + 1) = fewS (fewK l k) l[k] := by
  unfold fewK; rw [List.take_succ_eq_append_getElem h, List.foldl_append]; rfl
theorem fewK_ne {l : List (List Int × Int)} : ∀ {k : Nat}, k < l.length → (fewK l (k + 1)).1 ≠ [] := fun {k} h => by
  rw [fewK_succ h]
  unfold fewS
  split
  · simp
  · rename_i q
    rw [not_or] at q
    split
    · simp
    · intro e; rw [e] at q; exact q.1 rfl
theorem fewK_len {l : List (List Int × Int)} : ∀ {k : Nat}, k ≤ l.length → (fewK l k).1.length ≤ k
  | 0, _ => by rw [fewK_zero]; simp
  | k + 1, h => by
    have ih := fewK_len (l := l) (k := k) (by omega)
    rw [fewK_succ (by omega)]
    unfold fewS
    split
    · simp
    · split
      · rw [List.length_append]; simp; omega
      · omega
theorem few_keep {p : List Int} {c : Int} : ∀ {l : List (List Int × Int)}, (∀ x ∈ l, c < x.2) → l.foldl fewS ([p], c) = ([p], c)
  | [], _ => rfl
  | x :: l, h => by
    have hx := h x (by simp)
    rw [List.foldl_cons, show fewS ([p], c) x = ([p], c) by
      unfold fewS
      rw [if_neg (by rintro (q | q); cases q; exact absurd q (Int.not_lt.2 (Int.le_of_lt hx))), if_neg (fun q => by simp only at q; omega)]]
    exact few_keep fun y hy => h y (by simp [hy])
theorem few_from {c : Int} : ∀ {l : List (List Int × Int)} {o : List (List Int) × Int}, (∀ x ∈ l, c < x.2) → (o.1.isEmpty = true ∨ c < o.2) → (l.foldl fewS o).1.isEmpty = true ∨ c < (l.foldl fewS o).2
  | [], o, _, h => h
  | x :: l, o, h, ho => by
    have hx := h x (by simp)
    rw [List.foldl_cons]
    refine few_from (fun y hy => h y (by simp [hy])) ?_
    unfold fewS
    split
    · exact .inr hx
    · rename_i q
      rw [not_or] at q
      have h2 : c < o.2 := ho.resolve_left q.1
      split
      · exact .inr h2
      · exact .inr h2
theorem few_only {a b : List (List Int × Int)} {p : List Int} {c : Int} (ha : ∀ x ∈ a, c < x.2) (hb : ∀ x ∈ b, c < x.2) : fewV (a ++ (p, c) :: b) = ([p], c) := by
  unfold fewV fewK
  rw [List.take_length, List.foldl_append, List.foldl_cons]
  have h1 := few_from (c := c) (l := a) (o := ([], 0)) ha (.inl rfl)
  obtain ⟨o, ho⟩ : ∃ o, o = a.foldl fewS ([], 0) := ⟨_, rfl⟩
  rw [← ho] at h1 ⊢
  rw [show fewS o (p, c) = ([p], c) by unfold fewS; rw [if_pos h1]]
  exact few_keep hb
def kept (b : Bk) (k : Nat) : List (List Int) := (b.cps.filter fun c => !(c.getD k ⟨false, []⟩).lost).map fun c => (c.getD k ⟨false, []⟩).ws
def keptK (b : Bk) (k n : Nat) : List (List Int) := ((b.cps.take n).filter fun c => !(c.getD k ⟨false, []⟩).lost).map fun c => (c.getD k ⟨false, []⟩).ws
theorem keptK_all (b : Bk) (k : Nat) : keptK b k b.cps.length = kept b k := by unfold keptK kept; rw [List.take_length]
theorem keptK_succ {b : Bk} {k n : Nat} (hn : n < b.cps.length) (hk : k < b.cps[n].length) : keptK b k (n + 1) = keptK b k n ++ (if b.cps[n][k].lost = true then [] else [b.cps[n][k].ws]) := by
  have e : b.cps[n].getD k ⟨false, []⟩ = b.cps[n][k] := by rw [List.getD_eq_getElem?_getD, List.getElem?_eq_getElem hk]; rfl
  unfold keptK
  rw [List.take_succ_eq_append_getElem hn, List.filter_append, List.map_append]
  congr 1
  cases h : b.cps[n][k].lost with
  | true => rw [List.filter_cons_of_neg (by rw [e, h]; simp), if_pos rfl]; rfl
  | false => rw [List.filter_cons_of_pos (by rw [e, h]; rfl), if_neg (by simp)]; rw [List.filter_nil, List.map_cons, List.map_nil, e]
theorem keptK_len (b : Bk) (k n : Nat) : (keptK b k n).length ≤ n := by
  unfold keptK
  rw [List.length_map]
  exact Nat.le_trans (List.length_filter_le _ _) (by rw [List.length_take]; omega)
theorem mem_kept {b : Bk} {k : Nat} {l : List Int} (h : l ∈ kept b k) : ∃ c ∈ b.cps, ¬ (c.getD k ⟨false, []⟩).lost = true ∧ l = (c.getD k ⟨false, []⟩).ws := by
  unfold kept at h
  obtain ⟨c, hc, rfl⟩ := List.mem_map.1 h
  have := List.mem_filter.1 hc
  exact ⟨c, this.1, by simpa using this.2, rfl⟩
def costs (b : Bk) (k : Nat) : List (List Int × Int) := (lns b.words.toNat).map fun l => (l, ((cost (kept b k) l : Nat) : Int))
def leastP (b : Bk) (k : Nat) : List (List Int) × Int := fewV (costs b k)
theorem least_only {b : Bk} {k : Nat} {p : List Int} (h1 : 1 ≤ b.words) (hp : linB b.words p = true) (h : (kept b k).length < 2 * ((kept b k).filter (· == p)).length) : leastP b k = ([p], ((cost (kept b k) p : Nat) : Int)) := by
  have hm := linB_mem h1 hp
  obtain ⟨a, c, he⟩ := List.append_of_mem hm
  have hn : (lns b.words.toNat).Nodup := lnsK_nodup _ _
  rw [he] at hn
  have hn2 := List.nodup_append.1 hn
  have hc := List.nodup_cons.1 hn2.2.1
  unfold leastP costs
  rw [he, List.map_append, List.map_cons]
  refine few_only ?_ ?_
  · intro x hx
    obtain ⟨l, hl, rfl⟩ := List.mem_map.1 hx
    have := cost_lt (K := kept b k) (p := p) (l := l) (hn2.2.2 l hl p (by simp)) h
    show ((cost (kept b k) p : Nat) : Int) < ((cost (kept b k) l : Nat) : Int)
    omega
  · intro x hx
    obtain ⟨l, hl, rfl⟩ := List.mem_map.1 hx
    have := cost_lt (K := kept b k) (p := p) (l := l) (fun q => hc.1 (q ▸ hl)) h
    show ((cost (kept b k) p : Nat) : Int) < ((cost (kept b k) l : Nat) : Int)
    omega
def hld : List Int → List Int → Bool
  | _, [] => true
  | [], _ :: _ => false
  | w :: line, x :: l => if x = w then hld line l else hld line (x :: l)
theorem hld_nil (line : List Int) : hld line [] = true := by cases line <;> rfl
theorem hld_self : ∀ l : List Int, hld l l = true
  | [] => rfl
  | x :: l => by rw [hld, if_pos rfl]; exact hld_self l
theorem hld_len : ∀ {line l : List Int}, hld line l = true → l.length ≤ line.length
  | _, [], _ => by simp
  | [], _ :: _, h => by cases h
  | w :: line, x :: l, h => by
    rw [hld] at h
    split at h
    · have := hld_len h; simp; omega
    · have := hld_len h; simp at this ⊢; omega
theorem hld_eq : ∀ {line l : List Int}, hld line l = true → l.length = line.length → l = line
  | [], [], _, _ => rfl
  | _ :: _, [], _, h => by cases h
  | [], _ :: _, _, h => by cases h
  | w :: line, x :: l, h, hl => by
    rw [hld] at h
    split at h
    · rename_i e; rw [e, hld_eq h (by simpa using hl)]
    · have := hld_len h; simp at this hl; omega
def com (n : Nat) (L : List (List Int)) : Nat → List Int
  | 0 => []
  | k + 1 => ((wrds n (k + 1)).find? fun l => L.all fun m => hld m l).getD (com n L k)
theorem com_one {n : Nat} {p : List Int} (hp : ∀ x ∈ p, 0 ≤ x ∧ x < n) : ∀ {k : Nat}, p.length ≤ k → com n [p] k = p
  | 0, h => (List.length_eq_zero_iff.1 (Nat.le_zero.1 h)).symm
  | k + 1, h => by
    unfold com
    cases hf : (wrds n (k + 1)).find? fun l => [p].all fun m => hld m l with
    | some l =>
      have h1 := List.find?_some hf
      have h2 := (mem_wrds.1 (List.mem_of_find?_eq_some hf)).1
      simp only [List.all_cons, List.all_nil, Bool.and_true] at h1
      have h3 := hld_len h1
      exact hld_eq (l := l) h1 (by omega)
    | none =>
      rw [List.find?_eq_none] at hf
      refine com_one hp ?_
      rcases Nat.lt_or_ge k p.length with q | q
      · exact absurd (by simp [hld_self]) (hf p (mem_wrds.2 ⟨by omega, hp⟩))
      · exact q
end Vr
namespace Go.Proofs.YtnbjaepkbabkhaaGreat
open Go Go.Ab Br Hd
open Ni (hi inn lo)
theorem in9_pure (n lo hi : Int) : APure Tryz.prog 33 [I n, I lo, I hi] (B (inn n lo hi)) := by
  refine ap Tryz.func33 (fun e0 he0 => ?_)
  refine wz 5 ?_
  refine sz 10 (fun g1 g1' => ?_) (fun g1 g1' => ?_)
  ·refine wz 5 ?_
   exact rz rfl (Less.eq (by simp [inn, *]))
  refine wz 5 ?_
  exact rz rfl (Less.eq (by simp [inn, *]))
theorem inV_pure (n lo hi : Int) : APure Tryz.prog 116 [I n, I lo, I hi] (B (inn n lo hi)) := by
  refine ap Tryz.func116 (fun e0 he0 => ?_)
  refine wz 5 ?_
  refine sz 10 (fun g1 g1' => ?_) (fun g1 g1' => ?_)
  ·refine wz 5 ?_
   exact rz rfl (Less.eq (by simp [inn, *]))
  refine wz 5 ?_
  exact rz rfl (Less.eq (by simp [inn, *]))
theorem in6_pure (n lo hi : Int) : APure Tryz.prog 67 [I n, I lo, I hi] (B (inn n lo hi)) := by
  refine ap Tryz.func67 (fun e0 he0 => ?_)
  refine wz 5 ?_
  refine sz 10 (fun g1 g1' => ?_) (fun g1 g1' => ?_)
  ·refine wz 5 ?_
   exact rz rfl (Less.eq (by simp [inn, *]))
  refine wz 5 ?_
  exact rz rfl (Less.eq (by simp [inn, *]))
theorem rscb_pure (x : Scb) : APure Tryz.prog 34 [.agg (scbC x)] (B (scbOK x)) := by
  refine ap Tryz.func34 (fun e0 he0 => ?_)
  refine wz 4 ?_
  refine kz az (in9_pure _ _ _) ?_
  refine wz 1 ?_
  refine sz 6 (fun g1_3 g1_3' => ?_) (fun g1_3 g1_3' => ?_)
  ·refine wz 2 ?_
   refine ky az (in9_pure _ _ _) ?_
   refine wz 2 ?_
   refine sz 11 (fun g1_8 g1_8' => ?_) (fun g1_8 g1_8' => ?_)
   ·refine wz 4 ?_
    refine ky az (in9_pure _ _ _) ?_
    refine wz 2 ?_
    exact rz rfl (Less.eq (congrArg B (by unfold scbOK; simp [*])))
   refine wz 7 ?_
   exact rz rfl (Less.eq (congrArg B (by unfold scbOK; simp [*])))
  refine wz 12 ?_
  exact rz rfl (Less.eq (congrArg B (by unfold scbOK; simp [*])))
end Go.Proofs.YtnbjaepkbabkhaaGreat
namespace Go.Proofs.YtnbjaepkbabkhaaGreat
open Go Go.Ab Br Hd
open Ni (hi inn)
def cntB (s : Sto) (m : Int) (k : Nat) : Nat := (if s.eps ≤ m then 1 else 0) + cntK s m k
def lngB (s : Sto) (m : Int) (k : Nat) : Nat := max (if s.eps ≤ m then 1 else 0) (lngK s m k)
theorem noK {s : Sto} (B : ParB s) {m : Int} (h : s.eps ≤ m) (k : Nat) : cntK s m k = 0 ∧ lngK s m k = 0 := by
  have hno : ∀ r ∈ s.rules.take k, ¬ r.frm = m := fun r hr e => by have := (B.ru r (List.mem_of_mem_take hr)).1; omega
  constructor
  · unfold cntK
    rw [List.filter_eq_nil_iff.2 fun r hr => by simpa using hno r hr]; rfl
  · unfold lngK
    rw [List.filter_eq_nil_iff.2 fun r hr => by simp [hno r hr]]; rfl
theorem cntB_all {s : Sto} (B : ParB s) {m : Int} (h0 : 0 ≤ m) : cntB s m s.rules.length = cnt s m := by
  unfold cntB
  rcases Int.lt_or_le m s.eps with h | h
  · rw [if_neg (by omega), cnt_eps B h0 h]; omega
  · rw [if_pos h, (noK B h _).1, cnt_scene h]
theorem lngB_all {s : Sto} (B : ParB s) {m : Int} (h0 : 0 ≤ m) : lngB s m s.rules.length = lng s m := by
  unfold lngB
  rcases Int.lt_or_le m s.eps with h | h
  · rw [if_neg (by omega), lng_eps B h0 h]; omega
  · rw [if_pos h, (noK B h _).2, lng_scene h]; rfl
theorem cap_max (c a b : Nat) : cap c (max a b) = max (cap c a) (cap c b) := by unfold cap; omega
theorem cap_sum (c : Nat) : ∀ l : List Nat, cap c ((l.map (cap c)).sum) = cap c l.sum
  | [] => rfl
  | a :: l => by
    rw [List.map_cons, List.sum_cons, List.sum_cons, ← cap_add, cap_cap (Nat.le_refl c), cap_sum c l, cap_add]
def manR (s : Sto) (i : Nat) : Nat := cap 41 (cnt s (i : Int))
def lonR (s : Sto) (i : Nat) : Nat := cap 11 (lng s (i : Int))
theorem manR_at (s : Sto) {n : Int} (h : 0 ≤ n) : manR s n.toNat = cap 41 (cnt s n) := by unfold manR; rw [show ((n.toNat : Nat) : Int) = n by omega]
theorem lonR_at (s : Sto) {n : Int} (h : 0 ≤ n) : lonR s n.toNat = cap 11 (lng s n) := by unfold lonR; rw [show ((n.toNat : Nat) : Int) = n by omega]
def proR (s : Sto) (r : Rul) (k : Nat) : Nat := cap 41 (prodN ((r.to.take k).map fun n => cap 41 (cnt s n)))
def sumR (s : Sto) (r : Rul) (k : Nat) : Nat := ((r.to.take k).map fun n => cap 11 (lng s n)).sum
theorem proR_succ {s : Sto} {r : Rul} {k : Nat} (h : k < r.to.length) : (min (41 : Int) (((proR s r k : Nat) : Int) * ((cap 41 (cnt s r.to[k]) : Nat) : Int)) : Int) = ((proR s r (k + 1) : Nat) : Int) := by
  unfold proR
  rw [show (41 : Int) = ((41 : Nat) : Int) from rfl, cap_min, cap_mul1 (by decide), List.take_succ_eq_append_getElem h, List.map_append, prodN_app]
  simp [prodN]
theorem sumR_succ {s : Sto} {r : Rul} {k : Nat} (h : k < r.to.length) : sumR s r (k + 1) = sumR s r k + cap 11 (lng s r.to[k]) := by
  unfold sumR; rw [List.take_succ_eq_append_getElem h, List.map_append, List.sum_append]; simp
theorem proR_all (s : Sto) (r : Rul) : proR s r r.to.length = cap 41 (prodN (r.to.map (cnt s))) := by
  unfold proR; rw [List.take_length, ← cap_prod (by decide) (r.to.map (cnt s)), List.map_map]; rfl
theorem sumR_all (s : Sto) (r : Rul) : cap 11 (sumR s r r.to.length) = cap 11 ((r.to.map (lng s)).sum) := by
  unfold sumR; rw [List.take_length, ← cap_sum, ← cap_sum 11 (r.to.map (lng s)), List.map_map, List.map_map]
  rw [show (cap 11 ∘ fun n => cap 11 (lng s n)) = (cap 11 ∘ lng s) from funext fun n => cap_cap (Nat.le_refl 11)]
theorem sumR_le (s : Sto) (r : Rul) : ∀ k, k ≤ r.to.length → sumR s r k ≤ 11 * k
  | 0, _ => by simp [sumR]
  | k + 1, h => by
    have ih := sumR_le s r k (by omega)
    rw [sumR_succ (by omega)]
    have := cap_le 11 (lng s r.to[k]); omega
theorem rrul_pure (s : Sto) (r : Rul) (he : 1 ≤ s.eps ∧ s.eps ≤ 6) (hs : s.scs.length ≤ 8) : APure Tryz.prog 35 [stoA s, .agg (rulC r)] (B (rulOK s r)) := by
  refine ap Tryz.func35 (fun e0 he0 => ?_)
  refine wz 8 ?_
  refine kz az (in9_pure _ _ _) ?_
  refine wz 2 ?_
  refine sz 13 (fun g1_7 g1_7' => ?_) (fun g1_7 g1_7' => ?_)
  ·have hf0 : inn r.frm 0 (s.eps - 1) = false := by simpa using g1_7
   refine wz 8 ?_
   exact rz rfl (Less.eq (congrArg B (by unfold rulOK; rw [hf0]; rfl)))
  have hfi : 0 ≤ r.frm ∧ r.frm ≤ s.eps - 1 := by have h := g1_7; unfold inn at h; simpa using h
  have hf1 : inn r.frm 0 (s.eps - 1) = true := by simpa using g1_7
  refine wz 3 ?_
  refine ky az (in9_pure _ _ _) ?_
  refine wz 2 ?_
  refine iz (fun c_19 c_19' => ?_) (fun c_19 c_19' => ?_)
  ·have hl0 : inn (r.to.length : Int) 1 4 = false := by simpa using c_19
   refine wz 1 ?_
   exact rz rfl (Less.eq (congrArg B (by unfold rulOK; rw [hl0]; simp)))
  have hl1 : inn (r.to.length : Int) 1 4 = true := by simpa using c_19
  have hr4 : r.to.length ≤ 4 := by have h := hl1; unfold inn at h; simp at h; omega
  refine wz 1 ?_
  refine aw_loopk (ι := { k : Nat // k ≤ r.to.length ∧ ∀ i, (hi : i < r.to.length) → i < k → inn r.to[i] (r.frm + 1) (s.eps + s.scs.length - 1) = true }) [2, 3] (fun g => [(5, I (g.1 : Nat))]) (fun H g => H) (fun g => r.to.length - g.1) (⟨0, Nat.zero_le _, by omega⟩) ⟨jz, jz, jz, trivial⟩ rfl ?_
  rintro ⟨k, hk, hok⟩
  refine nz ?_
  refine wz 5 ?_
  refine iz (fun c_24 c_24' => ?_) (fun c_24 c_24' => ?_)
  ·have hkL : k < r.to.length := by omega
   refine wz 0 ?_
   refine aw_draw 17 mo (by kernel_rfl) ?_
   refine dz 15 ?_
   refine dkz az (in9_pure _ _ _) ?_
   refine dz 1 ?_
   refine wz 0 ?_
   refine iz (fun c_43 c_43' => ?_) (fun c_43 c_43' => ?_)
   ·have hno : (r.to.all fun n => inn n (r.frm + 1) (s.eps + s.scs.length - 1)) = false := List.all_eq_false.2 ⟨r.to[k], List.getElem_mem hkL, by simpa using c_43⟩
    refine wz 1 ?_
    exact rz rfl (Less.eq (congrArg B (by unfold rulOK; rw [hno]; simp)))
   have hin : inn r.to[k] (r.frm + 1) (s.eps + s.scs.length - 1) = true := by simpa using c_43
   refine wz 3 ?_
   exact ⟨⟨k + 1, by omega, fun i hi q => (by by_cases e : i = k; (subst e; exact hin); exact hok i hi (by omega))⟩, by simp only; omega, Sub.slots ⟨jz, jz, jz, trivial⟩⟩
  obtain rfl : k = r.to.length := by omega
  have hall : (r.to.all fun n => inn n (r.frm + 1) (s.eps + s.scs.length - 1)) = true := List.all_eq_true.2 fun n hn => by obtain ⟨i, hi, rfl⟩ := List.getElem_of_mem hn; exact hok i hi hi
  refine wz 1 ?_
  exact rz rfl (Less.eq (congrArg B (by unfold rulOK; rw [hf1, hl1, hall]; rfl)))
end Go.Proofs.YtnbjaepkbabkhaaGreat
namespace Go.Proofs.YtnbjaepkbabkhaaGreat
open Go Go.Ab Br Hd

theorem cntB_yes {s : Sto} {m : Int} {k : Nat} (hk : k < s.rules.length) (h : s.rules[k].frm = m) : cntB s m (k + 1) = cntB s m k + prodN (s.rules[k].to.map (cnt s)) := by
  unfold cntB; rw [cntK_yes hk h, Nat.add_assoc]
theorem cntB_no {s : Sto} {m : Int} {k : Nat} (hk : k < s.rules.length) (h : s.rules[k].frm ≠ m) : cntB s m (k + 1) = cntB s m k := by
  unfold cntB; rw [cntK_no hk h]
theorem lngB_yes {s : Sto} {m : Int} {k : Nat} (hk : k < s.rules.length) (h : s.rules[k].frm = m) (he : endR s s.rules[k] = true) : lngB s m (k + 1) = max (lngB s m k) (s.rules[k].to.map (lng s)).sum := by
  unfold lngB; rw [lngK_yes hk h he]; omega
theorem lngB_no {s : Sto} {m : Int} {k : Nat} (hk : k < s.rules.length) (h : ¬ (s.rules[k].frm = m ∧ endR s s.rules[k] = true)) : lngB s m (k + 1) = lngB s m k := by
  unfold lngB; rw [lngK_no hk h]
theorem cntB_zero (s : Sto) (m : Int) : cntB s m 0 = if s.eps ≤ m then 1 else 0 := by unfold cntB; rw [cntK_zero]; rfl
theorem lngB_zero (s : Sto) (m : Int) : lngB s m 0 = if s.eps ≤ m then 1 else 0 := by unfold lngB; rw [lngK_zero]; omega
def manS (s : Sto) : List Nat := (List.range (motN s)).map (manR s)
def lonS (s : Sto) : List Nat := (List.range (motN s)).map (lonR s)
theorem manS_0 {s : Sto} (B : ParB s) : ∃ h : 0 < (manS s).length, (manS s)[0] = cap 41 (cnt s 0) := by
  have := B.ep
  have h : 0 < (manS s).length := by unfold manS motN; rw [List.length_map, List.length_range]; omega
  exact ⟨h, Option.some.inj ((List.getElem?_eq_getElem h).symm.trans (by unfold manS; rw [List.getElem?_map, List.getElem?_range (by unfold motN; omega)]; rfl))⟩
theorem lonS_0 {s : Sto} (B : ParB s) : ∃ h : 0 < (lonS s).length, (lonS s)[0] = cap 11 (lng s 0) := by
  have := B.ep
  have h : 0 < (lonS s).length := by unfold lonS motN; rw [List.length_map, List.length_range]; omega
  exact ⟨h, Option.some.inj ((List.getElem?_eq_getElem h).symm.trans (by unfold lonS; rw [List.getElem?_map, List.getElem?_range (by unfold motN; omega)]; rfl))⟩
theorem pro_pos {s : Sto} {r : Rul} : 0 < proR s r r.to.length ↔ endR s r = true := by
  rw [proR_all, endR_iff, ← Nat.ne_zero_iff_zero_lt, ne_eq, cap_zero (by decide)]
theorem pro_le (s : Sto) (r : Rul) (k : Nat) : proR s r k ≤ 41 := cap_le _ _
theorem row_one {v : Nat → Nat} {n m x y : Nat} (h : m < n) (e : x = y) : ((rowF v n m 0).map fun (a : Nat) => I (a : Int)).take (0 + m * 1) ++ [I (x : Int)] ++ ((rowF v n m 0).map fun (a : Nat) => I (a : Int)).drop (0 + m * 1 + 1) = (rowF v n m y).map fun (a : Nat) => I (a : Int) := by
  rw [row_mid h, e]
theorem rows3 {a : AObj} {L L' M M' : List AV} (h1 : L = L') (h2 : M = M') : [a, AObj.cells L, AObj.cells M] = [a, AObj.cells L', AObj.cells M'] := by rw [h1, h2]
theorem ways9_pure {s : Sto} (B : ParB s) : APure Tryz.prog 36 [stoA s] (.tup [natV (manS s), natV (lonS s)]) := by
  refine ap Tryz.func36 (fun e0 he0 => ?_)
  refine vz 3 ?_
  refine sq_nil ?_
  refine aw_seq ?_
  have hep := B.ep
  have hns := B.ns
  have hnr := B.nr
  have hN := mot_N B
  refine aw_drawc [6, 13] [] _ mo (by kernel_rfl) (HSub.refl _) ?_
  first | refine dc_ev rfl (ev_fieldAddr fo25_0.h jz) ?_ | refine dc_ev rfl (ev_fieldAddr_i fo25_0.h jz) ?_
  first | refine dc_ev rfl (ev_load jz rfl ty3.h rfl) ?_ | refine dc_ev rfl (ev_load_i jz ty3.h rfl) ?_
  first | refine dc_ev rfl (ev_fieldAddr fo25_1.h jz) ?_ | refine dc_ev rfl (ev_fieldAddr_i fo25_1.h jz) ?_
  first | refine dc_ev rfl (ev_load jz rfl ty22.h rfl) ?_ | refine dc_ev rfl (ev_load_i jz ty22.h rfl) ?_
  first | refine dc_ev rfl (ev_len_map sl22.h jz) ?_ | refine dc_ev rfl (ev_len_map sl22.h (less_own _ _ _)) ?_ | refine dc_ev rfl (ev_len sl22.h jz rfl) ?_ | refine dc_ev rfl (ev_len sl22.h (less_own _ _ _) rfl) ?_ | refine dc_ev rfl (ev_len sl22.h (less_nil _) rfl) ?_ | refine dc_ev rfl (ev_len_msl sl22.h jz) ?_ | refine dc_ev rfl (ev_len sl22.h (less_slx _ _) rfl) ?_
  refine dc_ev rfl (ev_add jz jz (wr (by omega) (by omega))) ?_
  refine dc_fresh rfl rfl (fresh_rowT rfl rfl (motN s) (by omega) (by exact less_int hN) (by exact less_int hN)) ?_
  first | refine dc_ev rfl (ev_fieldAddr fo25_0.h jz) ?_ | refine dc_ev rfl (ev_fieldAddr_i fo25_0.h jz) ?_
  first | refine dc_ev rfl (ev_load jz rfl ty3.h rfl) ?_ | refine dc_ev rfl (ev_load_i jz ty3.h rfl) ?_
  first | refine dc_ev rfl (ev_fieldAddr fo25_1.h jz) ?_ | refine dc_ev rfl (ev_fieldAddr_i fo25_1.h jz) ?_
  first | refine dc_ev rfl (ev_load jz rfl ty22.h rfl) ?_ | refine dc_ev rfl (ev_load_i jz ty22.h rfl) ?_
  first | refine dc_ev rfl (ev_len_map sl22.h jz) ?_ | refine dc_ev rfl (ev_len_map sl22.h (less_own _ _ _)) ?_ | refine dc_ev rfl (ev_len sl22.h jz rfl) ?_ | refine dc_ev rfl (ev_len sl22.h (less_own _ _ _) rfl) ?_ | refine dc_ev rfl (ev_len sl22.h (less_nil _) rfl) ?_ | refine dc_ev rfl (ev_len_msl sl22.h jz) ?_ | refine dc_ev rfl (ev_len sl22.h (less_slx _ _) rfl) ?_
  refine dc_ev rfl (ev_add jz jz (wr (by omega) (by omega))) ?_
  refine dc_fresh rfl rfl (fresh_rowT rfl rfl (motN s) (by omega) (by exact less_int hN) (by exact less_int hN)) ?_
  first | refine dc_ev rfl (ev_as (v := .sl _ _) jz) ?_ | refine dc_ev rfl (ev_as (v := .own _ _ _) jz) ?_ | refine dc_ev rfl (ev_as (v := .raw _) jz) ?_ | refine dc_ev rfl (ev_as (v := .slx _ _) jz) ?_ | refine dc_ev rfl (ev_as (v := .msl _ _ _ _) jz) ?_
  first | refine dc_ev rfl (ev_as (v := .sl _ _) jz) ?_ | refine dc_ev rfl (ev_as (v := .own _ _ _) jz) ?_ | refine dc_ev rfl (ev_as (v := .raw _) jz) ?_ | refine dc_ev rfl (ev_as (v := .slx _ _) jz) ?_ | refine dc_ev rfl (ev_as (v := .msl _ _ _ _) jz) ?_
  refine dc_nil ?_
  refine aw_seq ?_
  refine aw_seq ?_
  rw [hN]
  refine wz 4 ?_
  refine aw_loopk (ι := { d : Nat // d ≤ motN s }) [1, 4, 5] (fun g => [(6, I ((motN s : Int) - 1 - (g.1 : Nat)))]) (fun H g => [.cells (stoC s), rowO (rowD (manR s) (motN s) g.1), rowO (rowD (lonR s) (motN s) g.1)]) (fun g => motN s - g.1) (⟨0, Nat.zero_le _⟩) ⟨(by exact less_int (by simp <;> omega)), jz, jz, jz, trivial⟩ (by rw [rowD_zero, rowD_zero] <;> rfl) ?_
  rintro ⟨d, hd⟩
  refine nz ?_
  refine wz 2 ?_
  refine iz (fun c_30 c_30' => ?_) (fun c_30 c_30' => ?_)
  ·obtain ⟨m, hmd⟩ : ∃ m : Nat, m + 1 + d = motN s := ⟨motN s - 1 - d, by omega⟩
   have em : (motN s : Int) - 1 - (d : Nat) = (m : Int) := by omega
   have hmN : m < motN s := by omega
   rw [em, rowD_in hmd, rowD_in hmd]
   refine wz 4 ?_
   refine iz (fun c_36 c_36' => ?_) (fun c_36 c_36' => ?_)
   ·have eM0 := row_one (v := manR s) (x := 1) (y := cap 41 (cntB s m 0)) hmN (by rw [cntB_zero, if_pos (by omega)]; rfl)
    have eL0 := row_one (v := lonR s) (x := 1) (y := cap 11 (lngB s m 0)) hmN (by rw [lngB_zero, if_pos (by omega)]; rfl)
    refine wz 4 ?_
    refine sq_ev rfl (ev_index_msl (k := m) sl31.h jz jz rfl hmN) ?_
    refine sq_store (j := 1) (off := 0 + m * 1) rfl jz jz rfl rfl ty3.h rfl (row_ble hmN) ?_
    refine sq_ev rfl (ev_index_msl (k := m) sl31.h jz jz rfl hmN) ?_
    refine sq_store (j := 2) (off := 0 + m * 1) rfl jz jz rfl rfl ty3.h rfl (row_ble hmN) ?_
    refine sq_nil ?_
    refine aw_seq ?_
    refine nz ?_
    refine wz 1 ?_
    refine aw_loopk (ι := { k : Nat // k ≤ s.rules.length }) [1, 4, 5, 6] (fun y => [(7, I (y.1 : Nat))]) (fun H y => [.cells (stoC s), rowO (rowF (manR s) (motN s) m (cap 41 (cntB s m y.1))), rowO (rowF (lonR s) (motN s) m (cap 11 (lngB s m y.1)))]) (fun y => s.rules.length - y.1) (⟨0, Nat.zero_le _⟩) ⟨jz, jz, jz, jz, jz, trivial⟩ (rows3 eM0 eL0).symm ?_
    rintro ⟨k, hk⟩
    refine nz ?_
    refine wz 5 ?_
    refine iz (fun c_47 c_47' => ?_) (fun c_47 c_47' => ?_)
    ·have hkR : k < s.rules.length := by omega
     have hrm := List.getElem_mem hkR
     have hto := B.ru _ hrm
     refine wz 11 ?_
     refine iz (fun c_58 c_58' => ?_) (fun c_58 c_58' => ?_)
     ·have hne : s.rules[k].frm ≠ (m : Int) := by simpa using c_58
      have hno : ¬ (s.rules[k].frm = (m : Int) ∧ endR s s.rules[k] = true) := fun q => hne q.1
      have eC : ((rowF (manR s) (motN s) m (cap 41 (cntB s m k))).map fun (a : Nat) => I (a : Int)) = ((rowF (manR s) (motN s) m (cap 41 (cntB s m (k + 1)))).map fun (a : Nat) => I (a : Int)) := by rw [cntB_no hkR hne]
      have eG : ((rowF (lonR s) (motN s) m (cap 11 (lngB s m k))).map fun (a : Nat) => I (a : Int)) = ((rowF (lonR s) (motN s) m (cap 11 (lngB s m (k + 1)))).map fun (a : Nat) => I (a : Int)) := by rw [lngB_no hkR hno]
      refine wz 3 ?_
      exact ⟨⟨k + 1, by omega⟩, by simp only; omega, sb 3 ⟨jz, jz, jz, jz, jz, trivial⟩ (hH := (rows3 eC eG)) (h2 := (by simp [objsIn, AObj.inB, AV.inB, AV.inL, inL_nat]))⟩
     have hfm : s.rules[k].frm = (m : Int) := by simpa using c_58
     refine wz 3 ?_
     refine aw_loopk (ι := { q : Nat // q ≤ s.rules[k].to.length }) [1, 4, 5, 6, 7, 8] (fun u => [(11, I (u.1 : Nat)), (9, I ((proR s s.rules[k] u.1 : Nat) : Int)), (10, I ((sumR s s.rules[k] u.1 : Nat) : Int))]) (fun H u => H) (fun u => s.rules[k].to.length - u.1) (⟨0, Nat.zero_le _⟩) ⟨jz, (by exact less_int rfl), (by exact less_int rfl), jz, jz, jz, jz, jz, jz, trivial⟩ rfl ?_
     rintro ⟨q, hq⟩
     refine nz ?_
     have hpq := pro_le s s.rules[k] q
     have hsq := sumR_le s s.rules[k] q hq
     refine wz 5 ?_
     refine iz (fun c_63 c_63' => ?_) (fun c_63 c_63' => ?_)
     ·have hqL : q < s.rules[k].to.length := by omega
      have eP := proR_succ (s := s) (r := s.rules[k]) hqL
      have eT : ((sumR s s.rules[k] q : Nat) : Int) + ((cap 11 (lng s s.rules[k].to[q]) : Nat) : Int) = ((sumR s s.rules[k] (q + 1) : Nat) : Int) := by rw [sumR_succ hqL]; omega
      refine aw_skip ?_
      refine aw_seq ?_
      refine aw_block ?_
      have hto := B.ru _ hrm
      have hxq := hto.2.2 _ (List.getElem_mem hqL)
      refine aw_drawc [] [] _ mo (by kernel_rfl) (HSub.refl _) ?_
      refine dc_ev rfl (ev_mv (v := .raw _) jz) ?_
      first | refine dc_ev rfl (ev_mv (v := .sl _ _) jz) ?_ | refine dc_ev rfl (ev_mv (v := .own _ _ _) jz) ?_ | refine dc_ev rfl (ev_mv (v := .raw _) jz) ?_ | refine dc_ev rfl (ev_mv (v := .slx _ _) jz) ?_ | refine dc_ev rfl (ev_mv (v := .msl _ _ _ _) jz) ?_
      first | refine dc_ev rfl (ev_fieldAddr fo104_1.h jz) ?_ | refine dc_ev rfl (ev_fieldAddr_i fo104_1.h jz) ?_
      first | refine dc_ev rfl (ev_load jz rfl ty31.h rfl) ?_ | refine dc_ev rfl (ev_load_i jz ty31.h rfl) ?_
      refine dc_ev rfl (ev_mv (v := .raw _) jz) ?_
      first | refine dc_ev rfl (ev_index_map sl31.h jz jz rfl (by omega)) ?_ | refine dc_ev rfl (ev_index sl31.h jz jz rfl rfl) ?_
      first | refine dc_ev rfl (ev_load jz rfl ty3.h rfl) ?_ | refine dc_ev rfl (ev_load_i jz ty3.h rfl) ?_
      refine dc_ev rfl (ev_index_msl (k := (s.rules[k].to[q]).toNat) sl31.h jz jz (by omega) (by omega)) ?_
      refine dc_ev rfl (ev_load (v := I ((cap 41 (cnt s s.rules[k].to[q]) : Nat) : Int)) jz rfl ty3.h ((rowF_val (by omega) (by omega)).trans (by rw [manR_at s (by omega)]))) ?_
      refine dc_ev rfl (ev_mul jz jz (wr (by rw [← Int.natCast_mul]; omega) (by rw [← Int.natCast_mul]; have := Nat.mul_le_mul hpq (cap_le 41 (cnt s s.rules[k].to[q])); omega))) ?_
      refine dc_ev rfl (ev_min2 jz jz) ?_
      refine dc_ev rfl (ev_mv (v := .raw _) jz) ?_
      first | refine dc_ev rfl (ev_mv (v := .sl _ _) jz) ?_ | refine dc_ev rfl (ev_mv (v := .own _ _ _) jz) ?_ | refine dc_ev rfl (ev_mv (v := .raw _) jz) ?_ | refine dc_ev rfl (ev_mv (v := .slx _ _) jz) ?_ | refine dc_ev rfl (ev_mv (v := .msl _ _ _ _) jz) ?_
      first | refine dc_ev rfl (ev_fieldAddr fo104_1.h jz) ?_ | refine dc_ev rfl (ev_fieldAddr_i fo104_1.h jz) ?_
      first | refine dc_ev rfl (ev_load jz rfl ty31.h rfl) ?_ | refine dc_ev rfl (ev_load_i jz ty31.h rfl) ?_
      refine dc_ev rfl (ev_mv (v := .raw _) jz) ?_
      first | refine dc_ev rfl (ev_index_map sl31.h jz jz rfl (by omega)) ?_ | refine dc_ev rfl (ev_index sl31.h jz jz rfl rfl) ?_
      first | refine dc_ev rfl (ev_load jz rfl ty3.h rfl) ?_ | refine dc_ev rfl (ev_load_i jz ty3.h rfl) ?_
      refine dc_ev rfl (ev_index_msl (k := (s.rules[k].to[q]).toNat) sl31.h jz jz (by omega) (by omega)) ?_
      refine dc_ev rfl (ev_load (v := I ((cap 11 (lng s s.rules[k].to[q]) : Nat) : Int)) jz rfl ty3.h ((rowF_val (by omega) (by omega)).trans (by rw [lonR_at s (by omega)]))) ?_
      refine dc_ev rfl (ev_add jz jz (wr (by omega) (by have := cap_le 11 (lng s s.rules[k].to[q]); omega))) ?_
      refine dc_ev rfl (ev_as (v := .raw _) jz) ?_
      refine dc_ev rfl (ev_as (v := .raw _) jz) ?_
      refine dc_nil ?_
      refine wz 3 ?_
      exact ⟨⟨q + 1, by omega⟩, by simp only; omega, Sub.slots ⟨jz, (by exact less_int eP), (by exact less_int eT), jz, jz, jz, jz, jz, jz, trivial⟩⟩
     obtain rfl : q = s.rules[k].to.length := by omega
     have eP : (min (41 : Int) (((cap 41 (cntB s m k) : Nat) : Int) + ((proR s s.rules[k] s.rules[k].to.length : Nat) : Int)) : Int) = ((cap 41 (cntB s m (k + 1)) : Nat) : Int) := by rw [cntB_yes hkR hfm, proR_all, ← cap_add]; generalize cap 41 (cntB s m k) = a; generalize cap 41 (prodN (s.rules[k].to.map (cnt s))) = b; unfold cap; omega
     have eC := row_mid (v := manR s) (x := cap 41 (cntB s m k)) hmN (cap 41 (cntB s m (k + 1)))
     refine aw_exit ?_
     refine aw_seq ?_
     refine nz ?_
     refine wz 4 ?_
     refine sq_ev rfl (ev_index_msl (k := m) sl31.h jz jz rfl hmN) ?_
     refine sq_ev rfl (ev_load jz rfl ty3.h (rowF_me hmN)) ?_
     refine wz 1 ?_
     refine sq_ev rfl (ev_add jz jz (wr (by omega) (by have := cap_le 41 (cntB s m k); have := pro_le s s.rules[k] s.rules[k].to.length; omega))) ?_
     refine wz 1 ?_
     refine sq_ev rfl (ev_index_msl (k := m) sl31.h jz jz rfl hmN) ?_
     refine sq_store (j := 1) (off := 0 + m * 1) rfl jz (by exact less_int eP) rfl rfl ty3.h rfl (row_ble hmN) ?_
     refine wz 2 ?_
     refine iz (fun c_98 c_98' => ?_) (fun c_98 c_98' => ?_)
     ·have hen := (pro_pos (s := s) (r := s.rules[k])).1 (by omega)
      have eQ : (max ((cap 11 (lngB s m k) : Nat) : Int) (min (11 : Int) ((sumR s s.rules[k] s.rules[k].to.length : Nat) : Int)) : Int) = ((cap 11 (lngB s m (k + 1)) : Nat) : Int) := by rw [lngB_yes hkR hfm hen, cap_max, ← sumR_all]; unfold cap; omega
      have eG := row_mid (v := lonR s) (x := cap 11 (lngB s m k)) hmN (cap 11 (lngB s m (k + 1)))
      refine nz ?_
      refine wz 4 ?_
      refine sq_ev rfl (ev_index_msl (k := m) sl31.h jz jz rfl hmN) ?_
      refine sq_ev rfl (ev_load jz rfl ty3.h (rowF_me hmN)) ?_
      refine wz 3 ?_
      refine sq_ev rfl (ev_index_msl (k := m) sl31.h jz jz rfl hmN) ?_
      refine sq_store (j := 2) (off := 0 + m * 1) rfl jz (by exact less_int eQ) rfl rfl ty3.h rfl (row_ble hmN) ?_
      refine wz 3 ?_
      exact ⟨⟨k + 1, by omega⟩, by simp only; omega, sb 3 ⟨jz, jz, jz, jz, jz, trivial⟩ (hH := (rows3 eC eG)) (h2 := (by simp [objsIn, AObj.inB, AV.inB, AV.inL, inL_nat]))⟩
     have hen : ¬ endR s s.rules[k] = true := fun q => by have := (pro_pos (s := s) (r := s.rules[k])).2 q; omega
     have eG : ((rowF (lonR s) (motN s) m (cap 11 (lngB s m k))).map fun (a : Nat) => I (a : Int)) = ((rowF (lonR s) (motN s) m (cap 11 (lngB s m (k + 1)))).map fun (a : Nat) => I (a : Int)) := by rw [lngB_no hkR (fun q => hen q.2)]
     refine wz 3 ?_
     exact ⟨⟨k + 1, by omega⟩, by simp only; omega, sb 3 ⟨jz, jz, jz, jz, jz, trivial⟩ (hH := (rows3 eC eG)) (h2 := (by simp [objsIn, AObj.inB, AV.inB, AV.inL, inL_nat]))⟩
    obtain rfl : k = s.rules.length := by omega
    have eM : ((rowF (manR s) (motN s) m (cap 41 (cntB s m s.rules.length))).map fun (a : Nat) => I (a : Int)) = (rowD (manR s) (motN s) (d + 1)).map fun (a : Nat) => I (a : Int) := by rw [cntB_all B (by omega)]; exact congrArg _ (rowF_out (v := manR s) hmd)
    have eL : ((rowF (lonR s) (motN s) m (cap 11 (lngB s m s.rules.length))).map fun (a : Nat) => I (a : Int)) = (rowD (lonR s) (motN s) (d + 1)).map fun (a : Nat) => I (a : Int) := by rw [lngB_all B (by omega)]; exact congrArg _ (rowF_out (v := lonR s) hmd)
    refine wz 3 ?_
    exact ⟨⟨d + 1, by omega⟩, by simp only; omega, sb 3 ⟨(by exact less_int (by simp <;> omega)), jz, jz, jz, trivial⟩ (hH := (rows3 eM eL)) (h2 := (by simp [objsIn, AObj.inB, AV.inB, AV.inL, inL_nat]))⟩
   have eM0 : ((rowF (manR s) (motN s) m 0).map fun (a : Nat) => I (a : Int)) = (rowF (manR s) (motN s) m (cap 41 (cntB s m 0))).map fun (a : Nat) => I (a : Int) := by rw [cntB_zero, if_neg (by omega)]; rfl
   have eL0 : ((rowF (lonR s) (motN s) m 0).map fun (a : Nat) => I (a : Int)) = (rowF (lonR s) (motN s) m (cap 11 (lngB s m 0))).map fun (a : Nat) => I (a : Int) := by rw [lngB_zero, if_neg (by omega)]; rfl
   refine aw_skip ?_
   refine aw_seq ?_
   refine nz ?_
   refine wz 1 ?_
   refine aw_loopk (ι := { k : Nat // k ≤ s.rules.length }) [1, 4, 5, 6] (fun y => [(7, I (y.1 : Nat))]) (fun H y => [.cells (stoC s), rowO (rowF (manR s) (motN s) m (cap 41 (cntB s m y.1))), rowO (rowF (lonR s) (motN s) m (cap 11 (lngB s m y.1)))]) (fun y => s.rules.length - y.1) (⟨0, Nat.zero_le _⟩) ⟨jz, jz, jz, jz, jz, trivial⟩ (rows3 eM0 eL0).symm ?_
   rintro ⟨k, hk⟩
   refine nz ?_
   refine wz 5 ?_
   refine iz (fun c_47 c_47' => ?_) (fun c_47 c_47' => ?_)
   ·have hkR : k < s.rules.length := by omega
    have hrm := List.getElem_mem hkR
    have hto := B.ru _ hrm
    refine wz 11 ?_
    refine iz (fun c_58 c_58' => ?_) (fun c_58 c_58' => ?_)
    ·have hne : s.rules[k].frm ≠ (m : Int) := by simpa using c_58
     have hno : ¬ (s.rules[k].frm = (m : Int) ∧ endR s s.rules[k] = true) := fun q => hne q.1
     have eC : ((rowF (manR s) (motN s) m (cap 41 (cntB s m k))).map fun (a : Nat) => I (a : Int)) = ((rowF (manR s) (motN s) m (cap 41 (cntB s m (k + 1)))).map fun (a : Nat) => I (a : Int)) := by rw [cntB_no hkR hne]
     have eG : ((rowF (lonR s) (motN s) m (cap 11 (lngB s m k))).map fun (a : Nat) => I (a : Int)) = ((rowF (lonR s) (motN s) m (cap 11 (lngB s m (k + 1)))).map fun (a : Nat) => I (a : Int)) := by rw [lngB_no hkR hno]
     refine wz 3 ?_
     exact ⟨⟨k + 1, by omega⟩, by simp only; omega, sb 3 ⟨jz, jz, jz, jz, jz, trivial⟩ (hH := (rows3 eC eG)) (h2 := (by simp [objsIn, AObj.inB, AV.inB, AV.inL, inL_nat]))⟩
    have hfm : s.rules[k].frm = (m : Int) := by simpa using c_58
    refine wz 3 ?_
    refine aw_loopk (ι := { q : Nat // q ≤ s.rules[k].to.length }) [1, 4, 5, 6, 7, 8] (fun u => [(11, I (u.1 : Nat)), (9, I ((proR s s.rules[k] u.1 : Nat) : Int)), (10, I ((sumR s s.rules[k] u.1 : Nat) : Int))]) (fun H u => H) (fun u => s.rules[k].to.length - u.1) (⟨0, Nat.zero_le _⟩) ⟨jz, (by exact less_int rfl), (by exact less_int rfl), jz, jz, jz, jz, jz, jz, trivial⟩ rfl ?_
    rintro ⟨q, hq⟩
    refine nz ?_
    have hpq := pro_le s s.rules[k] q
    have hsq := sumR_le s s.rules[k] q hq
    refine wz 5 ?_
    refine iz (fun c_63 c_63' => ?_) (fun c_63 c_63' => ?_)
    ·have hqL : q < s.rules[k].to.length := by omega
     have eP := proR_succ (s := s) (r := s.rules[k]) hqL
     have eT : ((sumR s s.rules[k] q : Nat) : Int) + ((cap 11 (lng s s.rules[k].to[q]) : Nat) : Int) = ((sumR s s.rules[k] (q + 1) : Nat) : Int) := by rw [sumR_succ hqL]; omega
     refine aw_skip ?_
     refine aw_seq ?_
     refine aw_block ?_
     have hto := B.ru _ hrm
     have hxq := hto.2.2 _ (List.getElem_mem hqL)
     refine aw_drawc [] [] _ mo (by kernel_rfl) (HSub.refl _) ?_
     refine dc_ev rfl (ev_mv (v := .raw _) jz) ?_
     first | refine dc_ev rfl (ev_mv (v := .sl _ _) jz) ?_ | refine dc_ev rfl (ev_mv (v := .own _ _ _) jz) ?_ | refine dc_ev rfl (ev_mv (v := .raw _) jz) ?_ | refine dc_ev rfl (ev_mv (v := .slx _ _) jz) ?_ | refine dc_ev rfl (ev_mv (v := .msl _ _ _ _) jz) ?_
     first | refine dc_ev rfl (ev_fieldAddr fo104_1.h jz) ?_ | refine dc_ev rfl (ev_fieldAddr_i fo104_1.h jz) ?_
     first | refine dc_ev rfl (ev_load jz rfl ty31.h rfl) ?_ | refine dc_ev rfl (ev_load_i jz ty31.h rfl) ?_
     refine dc_ev rfl (ev_mv (v := .raw _) jz) ?_
     first | refine dc_ev rfl (ev_index_map sl31.h jz jz rfl (by omega)) ?_ | refine dc_ev rfl (ev_index sl31.h jz jz rfl rfl) ?_
     first | refine dc_ev rfl (ev_load jz rfl ty3.h rfl) ?_ | refine dc_ev rfl (ev_load_i jz ty3.h rfl) ?_
     refine dc_ev rfl (ev_index_msl (k := (s.rules[k].to[q]).toNat) sl31.h jz jz (by omega) (by omega)) ?_
     refine dc_ev rfl (ev_load (v := I ((cap 41 (cnt s s.rules[k].to[q]) : Nat) : Int)) jz rfl ty3.h ((rowF_val (by omega) (by omega)).trans (by rw [manR_at s (by omega)]))) ?_
     refine dc_ev rfl (ev_mul jz jz (wr (by rw [← Int.natCast_mul]; omega) (by rw [← Int.natCast_mul]; have := Nat.mul_le_mul hpq (cap_le 41 (cnt s s.rules[k].to[q])); omega))) ?_
     refine dc_ev rfl (ev_min2 jz jz) ?_
     refine dc_ev rfl (ev_mv (v := .raw _) jz) ?_
     first | refine dc_ev rfl (ev_mv (v := .sl _ _) jz) ?_ | refine dc_ev rfl (ev_mv (v := .own _ _ _) jz) ?_ | refine dc_ev rfl (ev_mv (v := .raw _) jz) ?_ | refine dc_ev rfl (ev_mv (v := .slx _ _) jz) ?_ | refine dc_ev rfl (ev_mv (v := .msl _ _ _ _) jz) ?_
     first | refine dc_ev rfl (ev_fieldAddr fo104_1.h jz) ?_ | refine dc_ev rfl (ev_fieldAddr_i fo104_1.h jz) ?_
     first | refine dc_ev rfl (ev_load jz rfl ty31.h rfl) ?_ | refine dc_ev rfl (ev_load_i jz ty31.h rfl) ?_
     refine dc_ev rfl (ev_mv (v := .raw _) jz) ?_
     first | refine dc_ev rfl (ev_index_map sl31.h jz jz rfl (by omega)) ?_ | refine dc_ev rfl (ev_index sl31.h jz jz rfl rfl) ?_
     first | refine dc_ev rfl (ev_load jz rfl ty3.h rfl) ?_ | refine dc_ev rfl (ev_load_i jz ty3.h rfl) ?_
     refine dc_ev rfl (ev_index_msl (k := (s.rules[k].to[q]).toNat) sl31.h jz jz (by omega) (by omega)) ?_
     refine dc_ev rfl (ev_load (v := I ((cap 11 (lng s s.rules[k].to[q]) : Nat) : Int)) jz rfl ty3.h ((rowF_val (by omega) (by omega)).trans (by rw [lonR_at s (by omega)]))) ?_
     refine dc_ev rfl (ev_add jz jz (wr (by omega) (by have := cap_le 11 (lng s s.rules[k].to[q]); omega))) ?_
     refine dc_ev rfl (ev_as (v := .raw _) jz) ?_
     refine dc_ev rfl (ev_as (v := .raw _) jz) ?_
     refine dc_nil ?_
     refine wz 3 ?_
     exact ⟨⟨q + 1, by omega⟩, by simp only; omega, Sub.slots ⟨jz, (by exact less_int eP), (by exact less_int eT), jz, jz, jz, jz, jz, jz, trivial⟩⟩
    obtain rfl : q = s.rules[k].to.length := by omega
    have eP : (min (41 : Int) (((cap 41 (cntB s m k) : Nat) : Int) + ((proR s s.rules[k] s.rules[k].to.length : Nat) : Int)) : Int) = ((cap 41 (cntB s m (k + 1)) : Nat) : Int) := by rw [cntB_yes hkR hfm, proR_all, ← cap_add]; generalize cap 41 (cntB s m k) = a; generalize cap 41 (prodN (s.rules[k].to.map (cnt s))) = b; unfold cap; omega
    have eC := row_mid (v := manR s) (x := cap 41 (cntB s m k)) hmN (cap 41 (cntB s m (k + 1)))
    refine aw_exit ?_
    refine aw_seq ?_
    refine nz ?_
    refine wz 4 ?_
    refine sq_ev rfl (ev_index_msl (k := m) sl31.h jz jz rfl hmN) ?_
    refine sq_ev rfl (ev_load jz rfl ty3.h (rowF_me hmN)) ?_
    refine wz 1 ?_
    refine sq_ev rfl (ev_add jz jz (wr (by omega) (by have := cap_le 41 (cntB s m k); have := pro_le s s.rules[k] s.rules[k].to.length; omega))) ?_
    refine wz 1 ?_
    refine sq_ev rfl (ev_index_msl (k := m) sl31.h jz jz rfl hmN) ?_
    refine sq_store (j := 1) (off := 0 + m * 1) rfl jz (by exact less_int eP) rfl rfl ty3.h rfl (row_ble hmN) ?_
    refine wz 2 ?_
    refine iz (fun c_98 c_98' => ?_) (fun c_98 c_98' => ?_)
    ·have hen := (pro_pos (s := s) (r := s.rules[k])).1 (by omega)
     have eQ : (max ((cap 11 (lngB s m k) : Nat) : Int) (min (11 : Int) ((sumR s s.rules[k] s.rules[k].to.length : Nat) : Int)) : Int) = ((cap 11 (lngB s m (k + 1)) : Nat) : Int) := by rw [lngB_yes hkR hfm hen, cap_max, ← sumR_all]; unfold cap; omega
     have eG := row_mid (v := lonR s) (x := cap 11 (lngB s m k)) hmN (cap 11 (lngB s m (k + 1)))
     refine nz ?_
     refine wz 4 ?_
     refine sq_ev rfl (ev_index_msl (k := m) sl31.h jz jz rfl hmN) ?_
     refine sq_ev rfl (ev_load jz rfl ty3.h (rowF_me hmN)) ?_
     refine wz 3 ?_
     refine sq_ev rfl (ev_index_msl (k := m) sl31.h jz jz rfl hmN) ?_
     refine sq_store (j := 2) (off := 0 + m * 1) rfl jz (by exact less_int eQ) rfl rfl ty3.h rfl (row_ble hmN) ?_
     refine wz 3 ?_
     exact ⟨⟨k + 1, by omega⟩, by simp only; omega, sb 3 ⟨jz, jz, jz, jz, jz, trivial⟩ (hH := (rows3 eC eG)) (h2 := (by simp [objsIn, AObj.inB, AV.inB, AV.inL, inL_nat]))⟩
    have hen : ¬ endR s s.rules[k] = true := fun q => by have := (pro_pos (s := s) (r := s.rules[k])).2 q; omega
    have eG : ((rowF (lonR s) (motN s) m (cap 11 (lngB s m k))).map fun (a : Nat) => I (a : Int)) = ((rowF (lonR s) (motN s) m (cap 11 (lngB s m (k + 1)))).map fun (a : Nat) => I (a : Int)) := by rw [lngB_no hkR (fun q => hen q.2)]
    refine wz 3 ?_
    exact ⟨⟨k + 1, by omega⟩, by simp only; omega, sb 3 ⟨jz, jz, jz, jz, jz, trivial⟩ (hH := (rows3 eC eG)) (h2 := (by simp [objsIn, AObj.inB, AV.inB, AV.inL, inL_nat]))⟩
   obtain rfl : k = s.rules.length := by omega
   have eM : ((rowF (manR s) (motN s) m (cap 41 (cntB s m s.rules.length))).map fun (a : Nat) => I (a : Int)) = (rowD (manR s) (motN s) (d + 1)).map fun (a : Nat) => I (a : Int) := by rw [cntB_all B (by omega)]; exact congrArg _ (rowF_out (v := manR s) hmd)
   have eL : ((rowF (lonR s) (motN s) m (cap 11 (lngB s m s.rules.length))).map fun (a : Nat) => I (a : Int)) = (rowD (lonR s) (motN s) (d + 1)).map fun (a : Nat) => I (a : Int) := by rw [lngB_all B (by omega)]; exact congrArg _ (rowF_out (v := lonR s) hmd)
   refine wz 3 ?_
   exact ⟨⟨d + 1, by omega⟩, by simp only; omega, sb 3 ⟨(by exact less_int (by simp <;> omega)), jz, jz, jz, trivial⟩ (hH := (rows3 eM eL)) (h2 := (by simp [objsIn, AObj.inB, AV.inB, AV.inL, inL_nat]))⟩
  obtain rfl : d = motN s := by omega
  refine aw_exit ?_
  refine aw_seq ?_
  rw [rowD_all, rowD_all]
  refine aw_sub (sub_freeze (j := 1) (n := motN s) (cap := motN s) (sz := 1) (es := (manS s).map fun (a : Nat) => [I (a : Int)]) (rest := []) (sl' := [(4, natV (manS s)), (5, .msl 2 0 (motN s) (motN s))]) (by rw [flat_single, List.append_nil]; rfl) (by simp [manS]) (sz_nats _) (fun q hq => ?_) (FzH.same _ (by decide) (FzH.dead _ rfl (FzH.same _ (by decide) (FzH.nil _))))) ?_
  ·simp only [List.mem_cons, List.not_mem_nil, or_false] at hq; rcases hq with rfl | rfl <;> first | exact Fz.same _ | exact (Fz.frozen : Fz 1 (motN s) (motN s) 1 _ (.msl 1 0 (motN s) (motN s)) (.sl 1 _))
  refine nz ?_
  refine aw_sub (sub_freeze (j := 2) (n := motN s) (cap := motN s) (sz := 1) (es := (lonS s).map fun (a : Nat) => [I (a : Int)]) (rest := []) (sl' := [(4, natV (manS s)), (5, natV (lonS s))]) (by rw [flat_single, List.append_nil]; rfl) (by simp [lonS]) (sz_nats _) (fun q hq => ?_) (FzH.same _ (by decide) (FzH.same _ (by decide) (FzH.dead _ rfl (FzH.nil _))))) ?_
  ·simp only [List.mem_cons, List.not_mem_nil, or_false] at hq; rcases hq with rfl | rfl <;> first | exact Fz.same _ | exact (Fz.frozen : Fz 2 (motN s) (motN s) 1 _ (.msl 2 0 (motN s) (motN s)) (.sl 1 _))
  refine nz ?_
  refine wz 4 ?_
  exact retQ_pure (v := .tup [.sl _ _, .sl _ _]) rfl rfl jz
end Go.Proofs.YtnbjaepkbabkhaaGreat
namespace Go.Proofs.YtnbjaepkbabkhaaGreat
open Go Go.Ab Br Hd
open Ni (hi inn)
instance en6 : EnT Tryz.prog 6 := ⟨Ent.of Tryz.func6 (by kernel_rfl) rfl⟩
theorem story9_pure (s : Sto) (hs : s.scs.length ≤ 1000000) (hr : s.rules.length ≤ 1000000) : APure Tryz.prog 6 [stoA s] (B (stoOK s)) := by
  refine ap Tryz.func6 (fun e0 he0 => ?_)
  refine wz 4 ?_
  refine kz az (in9_pure _ _ _) ?_
  refine wz 2 ?_
  refine sz 11 (fun g1_4 g1_4' => ?_) (fun g1_4 g1_4' => ?_)
  ·have hpo : parOK s = false := by unfold parOK; rw [g1_4']; rfl
   refine wz 15 ?_
   exact rz rfl (Less.eq (congrArg B (by unfold stoOK; rw [hpo]; rfl)))
  refine wz 3 ?_
  refine ky az (in9_pure _ _ _) ?_
  refine wz 3 ?_
  refine sz 18 (fun g1_11 g1_11' => ?_) (fun g1_11 g1_11' => ?_)
  ·have hpo : parOK s = false := by unfold parOK; rw [g1_11']; simp
   refine wz 8 ?_
   exact rz rfl (Less.eq (congrArg B (by unfold stoOK; rw [hpo]; rfl)))
  refine wz 3 ?_
  refine ky az (in9_pure _ _ _) ?_
  refine wz 2 ?_
  refine iz (fun c_24 c_24' => ?_) (fun c_24 c_24' => ?_)
  ·have hpo : parOK s = false := by unfold parOK; rw [c_24']; simp
   refine wz 1 ?_
   exact rz rfl (Less.eq (congrArg B (by unfold stoOK; rw [hpo]; rfl)))
  have h3 : inn s.eps 1 6 = true ∧ inn (s.scs.length : Int) 1 8 = true ∧ inn (s.rules.length : Int) 1 10 = true := ⟨g1_4', g1_11', c_24'⟩
  have hep : 1 ≤ s.eps ∧ s.eps ≤ 6 := by have h := h3.1; unfold inn at h; simpa using h
  have hs8 : s.scs.length ≤ 8 := by have h := h3.2.1; unfold inn at h; simp at h; omega
  refine wz 1 ?_
  refine aw_loopk (ι := { k : Nat // k ≤ s.scs.length ∧ ∀ i, (hi : i < s.scs.length) → i < k → scbOK s.scs[i] = true }) [1] (fun g => [(3, I (g.1 : Nat))]) (fun H g => H) (fun g => s.scs.length - g.1) (⟨0, Nat.zero_le _, by omega⟩) ⟨jz, jz, trivial⟩ rfl ?_
  rintro ⟨k, hk, hok⟩
  refine nz ?_
  refine wz 5 ?_
  refine iz (fun c_29 c_29' => ?_) (fun c_29 c_29' => ?_)
  ·have hkL : k < s.scs.length := by omega
   refine wz 5 ?_
   refine kz az (rscb_pure _) ?_
   refine wz 1 ?_
   refine iz (fun c_38 c_38' => ?_) (fun c_38 c_38' => ?_)
   ·have hno : s.scs.all scbOK = false := List.all_eq_false.2 ⟨s.scs[k], List.getElem_mem hkL, by simpa using c_38⟩
    have hpo : parOK s = false := by unfold parOK; rw [hno]; simp
    refine wz 1 ?_
    exact rz rfl (Less.eq (congrArg B (by unfold stoOK; rw [hpo]; rfl)))
   have hin : scbOK s.scs[k] = true := by simpa using c_38
   refine wz 3 ?_
   exact ⟨⟨k + 1, by omega, fun i hi q => (by by_cases e : i = k; (subst e; exact hin); exact hok i hi (by omega))⟩, by simp only; omega, Sub.slots ⟨jz, jz, trivial⟩⟩
  obtain rfl : k = s.scs.length := by omega
  have hall : s.scs.all scbOK = true := List.all_eq_true.2 fun n hn => by obtain ⟨i, hi, rfl⟩ := List.getElem_of_mem hn; exact hok i hi hi
  refine wz 1 ?_
  refine aw_loopk (ι := { k : Nat // k ≤ s.rules.length ∧ ∀ i, (hi : i < s.rules.length) → i < k → rulOK s s.rules[i] = true }) [1] (fun g => [(4, I (g.1 : Nat))]) (fun H g => H) (fun g => s.rules.length - g.1) (⟨0, Nat.zero_le _, by omega⟩) ⟨jz, jz, trivial⟩ rfl ?_
  rintro ⟨k, hk, hok⟩
  refine nz ?_
  refine wz 5 ?_
  refine iz (fun c_43 c_43' => ?_) (fun c_43 c_43' => ?_)
  ·have hkL : k < s.rules.length := by omega
   refine wz 0 ?_
   refine aw_draw 8 mo (by kernel_rfl) ?_
   refine dz 6 ?_
   refine dkz az (rrul_pure s _ hep hs8) ?_
   refine dz 1 ?_
   refine wz 0 ?_
   refine iz (fun c_53 c_53' => ?_) (fun c_53 c_53' => ?_)
   ·have hno : s.rules.all (rulOK s) = false := List.all_eq_false.2 ⟨s.rules[k], List.getElem_mem hkL, by simpa using c_53⟩
    have hpo : parOK s = false := by unfold parOK; rw [hno]; simp
    refine wz 1 ?_
    exact rz rfl (Less.eq (congrArg B (by unfold stoOK; rw [hpo]; rfl)))
   have hin : rulOK s s.rules[k] = true := by simpa using c_53
   refine wz 3 ?_
   exact ⟨⟨k + 1, by omega, fun i hi q => (by by_cases e : i = k; (subst e; exact hin); exact hok i hi (by omega))⟩, by simp only; omega, Sub.slots ⟨jz, jz, trivial⟩⟩
  obtain rfl : k = s.rules.length := by omega
  have hal2 : s.rules.all (rulOK s) = true := List.all_eq_true.2 fun n hn => by obtain ⟨i, hi, rfl⟩ := List.getElem_of_mem hn; exact hok i hi hi
  have gB := parOK_iff.1 (show parOK s = true by unfold parOK; rw [h3.1, h3.2.1, h3.2.2, hall, hal2]; rfl)
  obtain ⟨hml, hm0⟩ := manS_0 gB
  obtain ⟨hll, hl0⟩ := lonS_0 gB
  refine wz 1 ?_
  refine kz az (ways9_pure gB) ?_
  refine wz 6 ?_
  refine sq_ev rfl (ev_index_map (k := 0) (xs := manS s) sl31.h jz jz rfl hml) ?_
  refine wz 3 ?_
  refine sz 63 (fun g14_4 g14_4' => ?_) (fun g14_4 g14_4' => ?_)
  ·have g4 := g14_4
   rw [hm0] at g4
   have hc4 : cnt s 0 ≤ 40 := by have h := g4; unfold cap at h; simp at h; omega
   refine wz 1 ?_
   refine sq_yes rfl rfl (less_b g14_4) rfl (ev_index_map (k := 0) (xs := lonS s) sl31.h jz jz rfl hll) ?_
   refine wz 4 ?_
   exact rz rfl (Less.eq (congrArg B (by unfold stoOK; rw [parOK_iff.2 gB, decide_eq_true hc4, hl0, Bool.true_and, Bool.true_and, decide_eq_decide]; unfold cap; omega)))
  have g4 := g14_4
  rw [hm0] at g4
  have hc4 : ¬ cnt s 0 ≤ 40 := by have h := g4; unfold cap at h; simp at h; omega
  refine wz 6 ?_
  exact rz rfl (Less.eq (congrArg B (by unfold stoOK; rw [decide_eq_false hc4]; simp)))
end Go.Proofs.YtnbjaepkbabkhaaGreat
namespace Go.Proofs.YtnbjaepkbabkhaaGreat
open Go Go.Ab Br Hd
open Ni hiding fw bw lo hi can
def lisOK (s : Sto) (l : List Int) (b : Int) : Bool := decide (l.length ≤ 10) && l.all fun x => inn x b (s.scs.length - 1)
end Go.Proofs.YtnbjaepkbabkhaaGreat
namespace Go.Proofs.YtnbjaepkbabkhaaGreat
open Go Go.Ab Br Hd
open Ni hiding fw bw lo hi can
theorem x9 {s : Sto} (hs : s.scs.length ≤ 10) (hr : s.rules.length ≤ 12) (hok : stoOK s = true) : APure Tryz.prog 9 [stoA s] (.tup [hds (Br.plays s), I 0]) := by
  have q := xplays_pure s (by omega) (by omega)
  unfold plyL at q; rw [if_pos hok, if_pos hok] at q; exact q
theorem x6 {s : Sto} (hs : s.scs.length ≤ 10) (hr : s.rules.length ≤ 12) {b : Bool} (h : stoOK s = b) : APure Tryz.prog 6 [stoA s] (B b) := by have q := story9_pure s (by omega) (by omega); rwa [h] at q
end Go.Proofs.YtnbjaepkbabkhaaGreat
namespace Go.Proofs.YtnbjaepkbabkhaaGreat
open Go Go.Ab Br Hd Vr
open Ni hiding fw bw lo hi can
instance en117 : EnT Tryz.prog 117 := ⟨Ent.of Tryz.func117 (by kernel_rfl) rfl⟩
instance en118 : EnT Tryz.prog 118 := ⟨Ent.of Tryz.func118 (by kernel_rfl) rfl⟩
instance en119 : EnT Tryz.prog 119 := ⟨Ent.of Tryz.func119 (by kernel_rfl) rfl⟩
instance en157 : EnT Tryz.prog 157 := ⟨Ent.of Tryz.func157 (by kernel_rfl) rfl⟩
instance en158 : EnT Tryz.prog 158 := ⟨Ent.of Tryz.func158 (by kernel_rfl) rfl⟩
instance en159 : EnT Tryz.prog 159 := ⟨Ent.of Tryz.func159 (by kernel_rfl) rfl⟩
instance en160 : EnT Tryz.prog 160 := ⟨Ent.of Tryz.func160 (by kernel_rfl) rfl⟩
instance en185 : EnT Tryz.prog 185 := ⟨Ent.of Tryz.func185 (by kernel_rfl) rfl⟩
instance en186 : EnT Tryz.prog 186 := ⟨Ent.of Tryz.func186 (by kernel_rfl) rfl⟩
instance en26 : EnT Tryz.prog 26 := ⟨Ent.of Tryz.func26 (by kernel_rfl) rfl⟩
instance en27 : EnT Tryz.prog 27 := ⟨Ent.of Tryz.func27 (by kernel_rfl) rfl⟩
instance en28 : EnT Tryz.prog 28 := ⟨Ent.of Tryz.func28 (by kernel_rfl) rfl⟩
instance en68 : EnT Tryz.prog 68 := ⟨Ent.of Tryz.func68 (by kernel_rfl) rfl⟩
instance en69 : EnT Tryz.prog 69 := ⟨Ent.of Tryz.func69 (by kernel_rfl) rfl⟩
instance fo85_0 : FoF Tryz.prog 85 0 0 3 := ⟨by kernel_rfl⟩
instance fo85_1 : FoF Tryz.prog 85 1 1 83 := ⟨by kernel_rfl⟩
instance fo90_0 : FoF Tryz.prog 90 0 0 4 := ⟨by kernel_rfl⟩
instance fo90_1 : FoF Tryz.prog 90 1 1 31 := ⟨by kernel_rfl⟩
instance sl83 : SlE Tryz.prog 83 91 1 := ⟨by kernel_rfl⟩
instance sl91 : SlE Tryz.prog 91 90 2 := ⟨by kernel_rfl⟩
instance ty83 : TyF Tryz.prog 83 false 1 := ⟨by kernel_rfl⟩
instance ty85 : TyF Tryz.prog 85 true 2 := ⟨by kernel_rfl⟩
instance ty90 : TyF Tryz.prog 90 true 2 := ⟨by kernel_rfl⟩
instance ty91 : TyF Tryz.prog 91 false 1 := ⟨by kernel_rfl⟩
instance z90 : ZeO Tryz.prog 90 [.raw (.bool false), .raw (.slice none 0 0)] := ⟨by kernel_rfl⟩
abbrev linC (x : Lin) : List AV := [B x.lost, ints x.ws]
abbrev lins (c : List Lin) : AV := .sl 2 (c.map linC)
abbrev cpsA (l : List (List Lin)) : AV := .sl 1 (l.map fun c => [lins c])
abbrev bkC (b : Bk) : List AV := [I b.words, cpsA b.cps]
abbrev bkA (b : Bk) : AV := .agg (bkC b)
@[simp] theorem inE_lins (n : Nat) (l : List Lin) : AV.inE n (l.map linC) = true := inE_map fun x _ => by simp [AV.inL, AV.inB]
@[simp] theorem inE_cps (n : Nat) (l : List (List Lin)) : AV.inE n (l.map fun c => [lins c]) = true := inE_map fun x _ => by simp [AV.inL, AV.inB]
@[simp] theorem pureE_lins (l : List Lin) : AV.pureE (l.map linC) = true := pureE_map fun x _ => by simp [AV.pureL, AV.pureB]
@[simp] theorem pureE_cps (l : List (List Lin)) : AV.pureE (l.map fun c => [lins c]) = true := pureE_map fun x _ => by simp [AV.pureL, AV.pureB]
structure BkS (b : Bk) : Prop where
  cp : ∀ c ∈ b.cps, (c.length : Int) ≤ 9223372036854775807
  ln : ∀ c ∈ b.cps, ∀ x ∈ c, (x.ws.length : Int) ≤ 9223372036854775807
theorem all_at {α : Type} {p : α → Bool} {l : List α} (h : ∀ i, (hi : i < l.length) → p l[i] = true) : l.all p = true := List.all_eq_true.2 fun n hn => by obtain ⟨i, hi, rfl⟩ := List.getElem_of_mem hn; exact h i hi
theorem all_no {α : Type} {p : α → Bool} {l : List α} {k : Nat} (hk : k < l.length) (h : p l[k] = false) : l.all p = false := List.all_eq_false.2 ⟨l[k], List.getElem_mem hk, by rw [h]; decide⟩
theorem widB_at {b : Bk} (h : 0 < b.cps.length) : b.cps[0].length = widB b := by
  unfold widB
  obtain ⟨l, hl⟩ : ∃ l, l = b.cps := ⟨_, rfl⟩
  have h2 : ∀ l : List (List Lin), (h : 0 < l.length) → l[0].length = (l.headD []).length := fun l h => by
    cases l with
    | nil => exact absurd h (Nat.lt_irrefl _)
    | cons c l => rfl
  exact h2 _ h
structure BkB (b : Bk) : Prop where
  wo : 1 ≤ b.words ∧ b.words ≤ 3
  nc : 1 ≤ b.cps.length ∧ b.cps.length ≤ 5
  wi : 1 ≤ widB b ∧ widB b ≤ 4
  al : ∀ c ∈ b.cps, copB b.words (widB b) c = true
  le : ∀ c ∈ b.cps, c.length = widB b
  ln : ∀ c ∈ b.cps, ∀ x ∈ c, linB b.words x.ws = true ∧ x.ws.length ≤ 4
theorem bkB_iff {b : Bk} : bkB b = true → BkB b := by
  intro h
  unfold bkB at h
  simp only [Bool.and_eq_true, inn, decide_eq_true_eq] at h
  obtain ⟨h1, h2, h3, h4⟩ := h
  have h5 := List.all_eq_true.1 h4
  have h6 : ∀ c ∈ b.cps, c.length = widB b ∧ ∀ x ∈ c, linB b.words x.ws = true ∧ x.ws.length ≤ 4 := fun c hc => by
    have h := h5 c hc
    unfold copB at h
    rw [Bool.and_eq_true, decide_eq_true_eq, List.all_eq_true] at h
    refine ⟨h.1, fun x hx => ?_⟩
    have q := h.2 x hx
    unfold lnB at q
    rw [Bool.and_eq_true] at q
    refine ⟨q.1, ?_⟩
    have r := q.1
    unfold linB at r
    rw [Bool.and_eq_true, decide_eq_true_eq] at r
    exact r.1
  exact ⟨h1, by omega, by omega, h5, fun c hc => (h6 c hc).1, fun c hc => (h6 c hc).2⟩
theorem inV_yes {n lo hi : Int} (h : inn n lo hi = true) : APure Tryz.prog 116 [I n, I lo, I hi] (B true) := by have q := inV_pure n lo hi; rwa [h] at q
theorem rline_pure (b : Bk) (l : List Int) (hw : 1 ≤ b.words ∧ b.words ≤ 3) (hl : (l.length : Int) ≤ 9223372036854775807) : APure Tryz.prog 28 [bkA b, ints l] (B (linB b.words l)) := by
  refine ap Tryz.func28 (fun e0 he0 => ?_)
  refine wz 3 ?_
  refine aw_loopk (ι := { k : Nat // k ≤ l.length ∧ ∀ i, (hi : i < l.length) → i < k → inn l[i] 0 (b.words - 1) = true }) [1, 2] (fun g => [(5, I (g.1 : Nat))]) (fun H g => H) (fun g => l.length - g.1) (⟨0, Nat.zero_le _, by omega⟩) ⟨jz, jz, jz, trivial⟩ rfl ?_
  rintro ⟨k, hk, hok⟩
  refine nz ?_
  refine wz 4 ?_
  refine iz (fun c_9 c_9' => ?_) (fun c_9 c_9' => ?_)
  ·have hkL : k < l.length := by omega
   refine wz 0 ?_
   refine aw_draw 9 mo (by kernel_rfl) ?_
   refine dz 7 ?_
   refine dkz az (in6_pure _ _ _) ?_
   refine dz 1 ?_
   refine wz 0 ?_
   refine iz (fun c_20 c_20' => ?_) (fun c_20 c_20' => ?_)
   ·have hno : (l.all fun x => inn x 0 (b.words - 1)) = false := all_no hkL (by simpa using c_20)
    refine wz 1 ?_
    exact rz rfl (Less.eq (congrArg B (by unfold linB; rw [hno]; simp)))
   have hin : inn l[k] 0 (b.words - 1) = true := by simpa using c_20
   refine wz 3 ?_
   exact ⟨⟨k + 1, by omega, fun i hi q => (by by_cases e : i = k; (subst e; exact hin); exact hok i hi (by omega))⟩, by simp only; omega, Sub.slots ⟨jz, jz, jz, trivial⟩⟩
  obtain rfl : k = l.length := by omega
  have hall : (l.all fun x => inn x 0 (b.words - 1)) = true := all_at fun i hi => hok i hi hi
  refine wz 4 ?_
  exact rz rfl (Less.eq (congrArg B (by unfold linB; rw [hall, Bool.and_true, decide_eq_decide]; omega)))
theorem rnum_pure (b : Bk) (n : Int) (hc : 0 < b.cps.length) (hw : (widB b : Int) ≤ 9223372036854775807) : APure Tryz.prog 27 [bkA b, I n] (B (inn n 0 (widB b - 1))) := by
  refine ap Tryz.func27 (fun e0 he0 => ?_)
  refine aw_seq ?_
  have hwa := widB_at hc
  refine wz 5 ?_
  refine sq_ev rfl (ev_index_map (k := 0) (xs := b.cps) (f := fun c => [lins c]) sl83.h jz jz rfl (hc)) ?_
  refine wz 3 ?_
  refine kz az (in6_pure _ _ _) ?_
  refine wz 1 ?_
  exact rz rfl (Less.eq (congrArg B (by rw [← hwa])))
theorem hasLine_pure (b : Bk) (n : Int) (hc : 0 < b.cps.length) (hw : (widB b : Int) ≤ 9223372036854775807) : APure Tryz.prog 69 [bkA b, I n] (B (inn n 0 (widB b - 1))) := by
  refine ap Tryz.func69 (fun e0 he0 => ?_)
  refine aw_seq ?_
  have hwa := widB_at hc
  refine wz 5 ?_
  refine sq_ev rfl (ev_index_map (k := 0) (xs := b.cps) (f := fun c => [lins c]) sl83.h jz jz rfl (hc)) ?_
  refine wz 3 ?_
  refine kz az (inV_pure _ _ _) ?_
  refine wz 1 ?_
  exact rz rfl (Less.eq (congrArg B (by rw [← hwa])))
theorem line1_pure (b : Bk) (n : Int) (hw : 1 ≤ b.words ∧ b.words ≤ 3) : APure Tryz.prog 186 [I n, .iptr (bkC b)] (B (!inn n 0 (b.words - 1))) := by
  refine ap Tryz.func186 (fun e0 he0 => ?_)
  refine wz 5 ?_
  refine kz az (inV_pure _ _ _) ?_
  refine wz 2 ?_
  exact rz rfl jz
theorem line_pure (b : Bk) (l : List Int) (hw : 1 ≤ b.words ∧ b.words ≤ 3) (hl : l.length ≤ 1000000) : APure Tryz.prog 160 [bkA b, ints l] (B (linB b.words l)) := by
  refine ap Tryz.func160 (fun e0 he0 => ?_)
  refine vz 2 ?_
  refine sq_nil ?_
  refine aw_seq ?_
  refine aw_sub (sub_iptrK [1] 2 (j := 0) (l := bkC b) rfl rfl) ?_
  refine wz 4 ?_
  refine sz 8 (fun g1_3 g1_3' => ?_) (fun g1_3 g1_3' => ?_)
  ·refine wz 2 ?_
   refine sq_yes rfl rfl (less_b g1_3) rfl (ev_call en110.h jz (intF_any (cap := [.iptr (bkC b)]) (q := fun n => !inn n 0 (b.words - 1)) l hl en186.h (fun i hi => line1_pure b _ hw) (by simp [AV.pureL, AV.pureB])) ⟨jz, jz, trivial⟩) ?_
   refine wz 3 ?_
   exact rz rfl (Less.eq (congrArg B (by unfold linB; rw [← any_not (fun n => inn n 0 (b.words - 1)) l]; first | (simp [*]; done) | (simp [*]; omega))))
  refine wz 6 ?_
  exact rz rfl (Less.eq (congrArg B (by unfold linB; rw [← any_not (fun n => inn n 0 (b.words - 1)) l]; first | (simp [*]; done) | (simp [*]; omega))))
theorem linF_ix {f : FuncId} {cap : List AV} {q : Lin → Bool} (E : List (Lin)) (hE : E.length ≤ 1000000) (en : Ent Tryz.prog f) (hc : ∀ i, (hi : i < E.length) → APure Tryz.prog f (.agg (linC E[i]) :: cap) (B (q E[i]))) (hp : AV.pureL cap = true) : APure Tryz.prog 185 [.sl 2 (E.map linC), .fn (.func f) [] cap] (I (ixQ q E)) := by
  refine ap Tryz.func185 (fun e0 he0 => ?_) (hp := by simp [AV.pureL, AV.pureB, hp])
  refine wz 4 ?_
  refine aw_loopk (ι := { k : Nat // k ≤ E.length ∧ ∀ i, (hi : i < E.length) → i < k → q E[i] = false }) [0, 1, 7] (fun i => [(8, I i.1)]) (fun H i => H) (fun i => E.length - i.1) (⟨0, Nat.zero_le _, by omega⟩) ⟨jz, jz, jz, jz, trivial⟩ rfl ?_
  rintro ⟨k, hk, hok⟩
  refine nz ?_
  refine wz 1 ?_
  refine iz (fun c_9 c_9' => ?_) (fun c_9 c_9' => ?_)
  ·have hkL : k < E.length := by omega
   refine wz 7 ?_
   refine sq_ev rfl (ev_call en jz (hc k hkL) ⟨jz, LessL.rfl' _⟩) ?_
   refine wz 0 ?_
   refine iz (fun c_16 c_16' => ?_) (fun c_16 c_16' => ?_)
   ·refine wz 2 ?_
    exact rz rfl (Less.eq (by rw [ixQ_at hkL (by simpa using c_16') hok]))
   refine wz 2 ?_
   exact ⟨⟨k + 1, by omega, fun i hi h => (by by_cases e : i = k; (subst e; simpa using c_16'); exact hok i hi (by omega))⟩, by simp only; omega, Sub.slots ⟨jz, jz, jz, jz, trivial⟩⟩
  refine wz 1 ?_
  exact rz rfl (Less.eq (by rw [ixQ_no fun i hi => hok i hi (by omega)]))
theorem linF_any {f : FuncId} {cap : List AV} {q : Lin → Bool} (E : List (Lin)) (hE : E.length ≤ 1000000) (en : Ent Tryz.prog f) (hc : ∀ i, (hi : i < E.length) → APure Tryz.prog f (.agg (linC E[i]) :: cap) (B (q E[i]))) (hp : AV.pureL cap = true) : APure Tryz.prog 158 [.sl 2 (E.map linC), .fn (.func f) [] cap] (B (E.any q)) := by
  refine ap Tryz.func158 (fun e0 he0 => ?_) (hp := by simp [AV.pureL, AV.pureB, hp])
  refine wz 3 ?_
  refine kz az (linF_ix E hE en hc hp) ?_
  refine wz 2 ?_
  exact rz rfl (Less.eq (by rw [← ixQ_any]))
theorem copF_ix {f : FuncId} {cap : List AV} {q : List Lin → Bool} (E : List (List Lin)) (hE : E.length ≤ 1000000) (en : Ent Tryz.prog f) (hc : ∀ i, (hi : i < E.length) → APure Tryz.prog f (lins E[i] :: cap) (B (q E[i]))) (hp : AV.pureL cap = true) : APure Tryz.prog 157 [.sl 1 (E.map fun c => [lins c]), .fn (.func f) [] cap] (I (ixQ q E)) := by
  refine ap Tryz.func157 (fun e0 he0 => ?_) (hp := by simp [AV.pureL, AV.pureB, hp])
  refine wz 4 ?_
  refine aw_loopk (ι := { k : Nat // k ≤ E.length ∧ ∀ i, (hi : i < E.length) → i < k → q E[i] = false }) [0, 1, 7] (fun i => [(8, I i.1)]) (fun H i => H) (fun i => E.length - i.1) (⟨0, Nat.zero_le _, by omega⟩) ⟨jz, jz, jz, jz, trivial⟩ rfl ?_
  rintro ⟨k, hk, hok⟩
  refine nz ?_
  refine wz 1 ?_
  refine iz (fun c_9 c_9' => ?_) (fun c_9 c_9' => ?_)
  ·have hkL : k < E.length := by omega
   refine wz 7 ?_
   refine sq_ev rfl (ev_call en jz (hc k hkL) ⟨jz, LessL.rfl' _⟩) ?_
   refine wz 0 ?_
   refine iz (fun c_16 c_16' => ?_) (fun c_16 c_16' => ?_)
   ·refine wz 2 ?_
    exact rz rfl (Less.eq (by rw [ixQ_at hkL (by simpa using c_16') hok]))
   refine wz 2 ?_
   exact ⟨⟨k + 1, by omega, fun i hi h => (by by_cases e : i = k; (subst e; simpa using c_16'); exact hok i hi (by omega))⟩, by simp only; omega, Sub.slots ⟨jz, jz, jz, jz, trivial⟩⟩
  refine wz 1 ?_
  exact rz rfl (Less.eq (by rw [ixQ_no fun i hi => hok i hi (by omega)]))
theorem copF_any {f : FuncId} {cap : List AV} {q : List Lin → Bool} (E : List (List Lin)) (hE : E.length ≤ 1000000) (en : Ent Tryz.prog f) (hc : ∀ i, (hi : i < E.length) → APure Tryz.prog f (lins E[i] :: cap) (B (q E[i]))) (hp : AV.pureL cap = true) : APure Tryz.prog 117 [.sl 1 (E.map fun c => [lins c]), .fn (.func f) [] cap] (B (E.any q)) := by
  refine ap Tryz.func117 (fun e0 he0 => ?_) (hp := by simp [AV.pureL, AV.pureB, hp])
  refine wz 3 ?_
  refine kz az (copF_ix E hE en hc hp) ?_
  refine wz 2 ?_
  exact rz rfl (Less.eq (by rw [← ixQ_any]))
theorem copy1_pure (b : Bk) (x : Lin) (hw : 1 ≤ b.words ∧ b.words ≤ 3) (hl : x.ws.length ≤ 1000000) : APure Tryz.prog 159 [.agg (linC x), .iptr (bkC b)] (B (!lnB b.words x)) := by
  refine ap Tryz.func159 (fun e0 he0 => ?_)
  refine wz 5 ?_
  refine kz az (line_pure b _ hw hl) ?_
  refine wz 2 ?_
  refine sz 9 (fun g1_5 g1_5' => ?_) (fun g1_5 g1_5' => ?_)
  ·refine wz 10 ?_
   exact rz rfl (Less.eq (congrArg B (by unfold lnB; cases hx : x.ws with | nil => simp_all | cons a l => simp_all)))
  refine wz 3 ?_
  refine sz 12 (fun g1_8 g1_8' => ?_) (fun g1_8 g1_8' => ?_)
  ·refine wz 7 ?_
   exact rz rfl (Less.eq (congrArg B (by unfold lnB; cases hx : x.ws with | nil => simp_all | cons a l => simp_all)))
  refine wz 7 ?_
  exact rz rfl (Less.eq (congrArg B (by unfold lnB; cases hx : x.ws with | nil => simp_all | cons a l => simp_all)))
theorem copy_pure (b : Bk) (c : List Lin) (hw : 1 ≤ b.words ∧ b.words ≤ 3) (hc : 0 < b.cps.length) (hl : c.length ≤ 1000000) (hx : ∀ x ∈ c, x.ws.length ≤ 1000000) : APure Tryz.prog 119 [bkA b, lins c] (B (copB b.words (widB b) c)) := by
  refine ap Tryz.func119 (fun e0 he0 => ?_)
  refine aw_seq ?_
  have hwa := widB_at hc
  refine vz 2 ?_
  refine sq_nil ?_
  refine aw_seq ?_
  refine aw_sub (sub_iptrK [1] 2 (j := 0) (l := bkC b) rfl rfl) ?_
  refine wz 4 ?_
  refine sq_ev rfl (ev_index_map (k := 0) (xs := b.cps) (f := fun c => [lins c]) sl83.h jz jz rfl (hc)) ?_
  refine wz 4 ?_
  refine sz 13 (fun g1_8 g1_8' => ?_) (fun g1_8 g1_8' => ?_)
  ·refine wz 2 ?_
   refine sq_yes rfl rfl (less_b g1_8) rfl (ev_call en158.h jz (linF_any (cap := [.iptr (bkC b)]) (q := fun x => !lnB b.words x) c hl en159.h (fun i hi => copy1_pure b _ hw (hx _ (List.getElem_mem hi))) (by simp [AV.pureL, AV.pureB])) ⟨jz, jz, trivial⟩) ?_
   refine wz 3 ?_
   exact rz rfl (Less.eq (congrArg B (by unfold copB; rw [← any_not (lnB b.words) c, ← hwa]; first | (simp [*]; done) | (simp [*]; omega))))
  refine wz 6 ?_
  exact rz rfl (Less.eq (congrArg B (by unfold copB; rw [← any_not (lnB b.words) c, ← hwa]; first | (simp [*]; done) | (simp [*]; omega))))
theorem book1_pure (b : Bk) (c : List Lin) (hw : 1 ≤ b.words ∧ b.words ≤ 3) (hc : 0 < b.cps.length) (hl : c.length ≤ 1000000) (hx : ∀ x ∈ c, x.ws.length ≤ 1000000) : APure Tryz.prog 118 [lins c, .iptr (bkC b)] (B (!copB b.words (widB b) c)) := by
  refine ap Tryz.func118 (fun e0 he0 => ?_)
  refine wz 3 ?_
  refine kz az (copy_pure b c hw hc hl hx) ?_
  refine wz 2 ?_
  exact rz rfl jz
theorem book_ok {b : Bk} (g : BkB b) : APure Tryz.prog 68 [bkA b] (B true) := by
  refine ap Tryz.func68 (fun e0 he0 => ?_)
  refine aw_seq ?_
  have hwo := g.wo
  have hnc := g.nc
  have hwi := g.wi
  have hwa := widB_at (b := b) (by omega)
  refine vz 2 ?_
  refine sq_nil ?_
  refine aw_seq ?_
  refine aw_sub (sub_iptrK [2] 1 (j := 0) (l := bkC b) rfl rfl) ?_
  refine wz 2 ?_
  refine kz az (inV_yes (by simp [inn]; omega)) ?_
  refine wz 4 ?_
  refine ky az (inV_yes (by simp [inn]; omega)) ?_
  refine wz 4 ?_
  refine sq_yes rfl rfl jz rfl (ev_index_map (k := 0) (xs := b.cps) (f := fun c => [lins c]) sl83.h jz jz rfl (by omega)) ?_
  refine wz 2 ?_
  refine ky az (inV_yes (by simp [inn]; omega)) ?_
  refine wz 5 ?_
  refine sq_yes rfl rfl jz rfl (ev_call en117.h jz (copF_any (cap := [.iptr (bkC b)]) (q := fun c => !copB b.words (widB b) c) b.cps (by omega) en118.h (fun i hi => book1_pure b _ hwo (by omega) (by have := g.le _ (List.getElem_mem hi); omega) (fun x hx => by have := (g.ln _ (List.getElem_mem hi) x hx).2; omega)) (by simp [AV.pureL, AV.pureB])) ⟨jz, jz, trivial⟩) ?_
  refine wz 3 ?_
  exact rz rfl (Less.eq (congrArg B (by rw [show (b.cps.any fun c => !copB b.words (widB b) c) = false from List.any_eq_false.2 fun c hc => by rw [g.al c hc]; decide]; rfl)))
theorem rbook_pure (b : Bk) (s : BkS b) (hcl : b.cps.length ≤ 1000000) : APure Tryz.prog 26 [bkA b] (B (bkB b)) := by
  refine ap Tryz.func26 (fun e0 he0 => ?_)
  refine wz 4 ?_
  refine kz az (in6_pure _ _ _) ?_
  refine wz 2 ?_
  refine sz 10 (fun g1_4 g1_4' => ?_) (fun g1_4 g1_4' => ?_)
  ·refine wz 8 ?_
   exact rz rfl (Less.eq (congrArg B (by have h := g1_4; unfold bkB; cases h1 : inn b.words 1 3 <;> simp_all)))
  refine wz 3 ?_
  refine ky az (in6_pure _ _ _) ?_
  refine wz 2 ?_
  refine iz (fun c_16 c_16' => ?_) (fun c_16 c_16' => ?_)
  ·have hbad : bkB b = false := by have h := c_16; unfold bkB; cases h1 : inn b.words 1 3 <;> cases h2 : inn b.cps.length 1 5 <;> simp_all
   refine wz 1 ?_
   exact rz rfl (Less.eq (congrArg B hbad.symm))
  refine aw_skip ?_
  refine aw_seq ?_
  refine aw_seq ?_
  have hnc : 1 ≤ b.cps.length ∧ b.cps.length ≤ 5 := by have h := c_16; simp [inn] at h; omega
  have hwo : 1 ≤ b.words ∧ b.words ≤ 3 := by have h := g1_4; simp [inn] at h; omega
  have hwa := widB_at (b := b) (by omega)
  have hi1 : inn b.words 1 3 = true := by simp [inn]; omega
  have hi2 : inn b.cps.length 1 5 = true := by simp [inn]; omega
  refine wz 1 ?_
  refine aw_loopk (ι := { n : Nat // n ≤ b.cps.length ∧ ∀ i, (hi : i < b.cps.length) → i < n → copB b.words (widB b) b.cps[i] = true }) [1] (fun g => [(3, I (g.1 : Nat))]) (fun H g => H) (fun g => b.cps.length - g.1) (⟨0, Nat.zero_le _, by omega⟩) ⟨jz, jz, trivial⟩ rfl ?_
  rintro ⟨n, hn, hok⟩
  refine nz ?_
  refine wz 5 ?_
  refine iz (fun c_21 c_21' => ?_) (fun c_21 c_21' => ?_)
  ·have hnL : n < b.cps.length := by omega
   have hsl := s.cp _ (List.getElem_mem hnL)
   refine wz 0 ?_
   refine aw_draw 12 mo (by kernel_rfl) ?_
   refine dz 8 ?_
   refine dr_ev rfl (ev_index_map (k := 0) (xs := b.cps) (f := fun c => [lins c]) sl83.h jz jz rfl (by omega)) ?_
   refine dz 3 ?_
   refine wz 0 ?_
   refine iz (fun c_35 c_35' => ?_) (fun c_35 c_35' => ?_)
   ·have hno : b.cps.all (copB b.words (widB b)) = false := all_no hnL (by unfold copB; rw [decide_eq_false (by omega)]; rfl)
    refine wz 1 ?_
    exact rz rfl (Less.eq (congrArg B (by unfold bkB; rw [hno]; simp)))
   have hle : b.cps[n].length = widB b := by omega
   refine wz 1 ?_
   refine aw_loopk (ι := { k : Nat // k ≤ b.cps[n].length ∧ ∀ i, (hi : i < b.cps[n].length) → i < k → lnB b.words b.cps[n][i] = true }) [1, 3] (fun g => [(4, I (g.1 : Nat))]) (fun H g => H) (fun g => b.cps[n].length - g.1) (⟨0, Nat.zero_le _, by omega⟩) ⟨jz, jz, jz, trivial⟩ rfl ?_
   rintro ⟨k, hk, hok2⟩
   refine nz ?_
   refine wz 8 ?_
   refine iz (fun c_43 c_43' => ?_) (fun c_43 c_43' => ?_)
   ·have hkL : k < b.cps[n].length := by omega
    refine wz 13 ?_
    refine kz az (rline_pure b _ hwo (s.ln _ (List.getElem_mem hnL) _ (List.getElem_mem hkL))) ?_
    refine wz 2 ?_
    refine sz 59 (fun g12_5 g12_5' => ?_) (fun g12_5 g12_5' => ?_)
    ·have hlb : linB b.words b.cps[n][k].ws = false := by simpa using g12_5
     have hln : lnB b.words b.cps[n][k] = false := by unfold lnB; rw [hlb]; rfl
     have hno : b.cps.all (copB b.words (widB b)) = false := all_no hnL (by unfold copB; rw [all_no hkL hln, Bool.and_false])
     refine wz 11 ?_
     exact rz rfl (Less.eq (congrArg B (by unfold bkB; rw [hno]; simp)))
    have hlb : linB b.words b.cps[n][k].ws = true := by simpa using g12_5
    refine wz 3 ?_
    refine sz 62 (fun g12_8 g12_8' => ?_) (fun g12_8 g12_8' => ?_)
    ·refine wz 6 ?_
     refine iz (fun c_68 c_68' => ?_) (fun c_68 c_68' => ?_)
     ·have hln : lnB b.words b.cps[n][k] = false := by have h := c_68; unfold lnB; rw [hlb, show b.cps[n][k].lost = true by simpa using g12_8]; cases hx : b.cps[n][k].ws with | nil => simp_all | cons a l => rfl
      have hno : b.cps.all (copB b.words (widB b)) = false := all_no hnL (by unfold copB; rw [all_no hkL hln, Bool.and_false])
      refine wz 1 ?_
      exact rz rfl (Less.eq (congrArg B (by unfold bkB; rw [hno]; simp)))
     have hln : lnB b.words b.cps[n][k] = true := by have h := c_68; unfold lnB; rw [hlb]; cases hx : b.cps[n][k].ws with | nil => simp | cons a l => simp_all
     refine wz 3 ?_
     exact ⟨⟨k + 1, by omega, fun i hi q => (by by_cases e : i = k; (subst e; exact hln); exact hok2 i hi (by omega))⟩, by simp only; omega, sb 1 ⟨jz, jz, jz, trivial⟩⟩
    have hln : lnB b.words b.cps[n][k] = true := by unfold lnB; rw [hlb, show b.cps[n][k].lost = false by simpa using g12_8]; rfl
    refine wz 10 ?_
    exact ⟨⟨k + 1, by omega, fun i hi q => (by by_cases e : i = k; (subst e; exact hln); exact hok2 i hi (by omega))⟩, by simp only; omega, sb 1 ⟨jz, jz, jz, trivial⟩⟩
   obtain rfl : k = b.cps[n].length := by omega
   have hcn : copB b.words (widB b) b.cps[n] = true := by unfold copB; rw [decide_eq_true hle, all_at fun i hi => hok2 i hi hi]; rfl
   refine wz 3 ?_
   exact ⟨⟨n + 1, by omega, fun i hi q => (by by_cases e : i = n; (subst e; exact hcn); exact hok i hi (by omega))⟩, by simp only; omega, Sub.slots ⟨jz, jz, trivial⟩⟩
  obtain rfl : n = b.cps.length := by omega
  have hall : b.cps.all (copB b.words (widB b)) = true := all_at fun i hi => hok i hi hi
  refine wz 2 ?_
  refine sq_ev rfl (ev_index_map (k := 0) (xs := b.cps) (f := fun c => [lins c]) sl83.h jz jz rfl (by omega)) ?_
  refine wz 2 ?_
  refine kz az (in6_pure _ _ _) ?_
  refine wz 1 ?_
  exact rz rfl (Less.eq (congrArg B (by unfold bkB; rw [hi1, hi2, hall, ← hwa]; simp)))
end Go.Proofs.YtnbjaepkbabkhaaGreat
namespace Go.Proofs.YtnbjaepkbabkhaaGreat
open Go Go.Ab Br Hd Vr
open Ni hiding fw bw lo hi can
instance en122 : EnT Tryz.prog 122 := ⟨Ent.of Tryz.func122 (by kernel_rfl) rfl⟩
instance en123 : EnT Tryz.prog 123 := ⟨Ent.of Tryz.func123 (by kernel_rfl) rfl⟩
instance en71 : EnT Tryz.prog 71 := ⟨Ent.of Tryz.func71 (by kernel_rfl) rfl⟩
abbrev putC (W long l N : Nat) : List AV := [.iptr [I (long : Nat)], .iptr [.fn (.yield l) [] []], .iptr [I (W : Nat)], .ptr (N + 1) 0]
abbrev putV (W long l N : Nat) : AV := .fn (.func 123) [] (putC W long l N)
abbrev putO (W long l N : Nat) : List AObj := [.dead, .cells [putV W long l N]]
theorem vx1 {W long l N : Nat} {G T : List AObj} (hT : T.length = N) : (T ++ (putO W long l N ++ G))[N + 1]? = some (.cells [putV W long l N]) := by subst hT; exact lookP rfl
def PutV (W long l m : Nat) (st : Bool) (T : Nat → List AObj) (a D : Nat) : ARes → List AObj → Prop := fun y H' =>
  ∃ c : Bool, y = .ret (B c) ∧ (c = false → st = true ∧ m ≤ a + D ∧ ∃ X, H' = T m ++ X) ∧ (c = true → (st = true → a + D < m) ∧ ∃ G, H' = T (a + D) ++ (putO W long l (T 0).length ++ G))
theorem appG (A B G : List AObj) (x : AObj) : A ++ (B ++ (G ++ [x])) = (A ++ (B ++ G)) ++ [x] := by simp
theorem pfxG (A B G X : List AObj) : A ++ (B ++ G) <+: A ++ (B ++ (G ++ X)) := by
  rw [show A ++ (B ++ (G ++ X)) = (A ++ (B ++ G)) ++ X by simp]; exact List.prefix_append _ _
theorem lookG (A B G : List AObj) (x : AObj) : (A ++ (B ++ (G ++ [x])))[(A ++ (B ++ G)).length]? = some x := by
  rw [appG, List.getElem?_append_right (Nat.le_refl _), Nat.sub_self]; rfl
theorem setG (A B G : List AObj) (x y : AObj) : (A ++ (B ++ (G ++ [x]))).set (A ++ (B ++ G)).length y = A ++ (B ++ (G ++ [y])) := by
  rw [appG, List.set_append_right _ _ (Nat.le_refl _), Nat.sub_self, appG]; rfl
theorem eff_appG {c : Ctx} {Q : AExit → St → Prop} {df : List ADef} {ρ : Operand → AV} {d : Option Tmp} {t : TypeId} {p : String} {af : Array Edge} {x y : Operand} {st xt et et' : TypeId} {j n sz bytes : Nat} {es xs : List (List AV)} {A B G : List AObj} (hd : dOK c.nt d = true)
    (hf : SlFact c.P st et sz bytes) (hk : c.P.underlying xt = some (.slice et')) (hx : ρ x = .own j sz es) (hj : j = (A ++ (B ++ G)).length) (hn : n = es.length) (hy : Less (ρ y) (.sl sz xs))
    (hb : (es.length + xs.length) * bytes ≤ 140737488355328) (h63 : es.length + xs.length ≤ 9223372036854775807) :
    Eff c Q ⟨d, .call ⟨.builtin .append, #[x, y], #[st, xt]⟩, t, p, af, none⟩ (A ++ (B ++ (G ++ [.tok n]))) df ρ (.own j sz (es ++ xs)) (A ++ (B ++ (G ++ [.tok (es ++ xs).length]))) := by
  subst hj; subst hn
  have h := eff_append (c := c) (Q := Q) (df := df) (t := t) (p := p) (af := af) hd hf hk hx (lookG A B G _) hy hb h63
  rwa [setG] at h
theorem clone_own (l : List Int) (hm : l.length ≤ 1000000) (H0 H1 : List AObj) (h1 : H0 ++ [.tok l.length] = H1) : ACall Tryz.prog 94 [ints l] H0 (fun x H' => x = .ret (.own H0.length 1 (l.map fun x => [I x])) ∧ H' = H1) := by
  subst h1
  refine acall_of (rs := [.tmp 2]) Tryz.func94 rfl rfl (Nat.le_of_ble_eq_true rfl) fun e0 he0 => ?_
  refine aw_seq ?_
  refine aw_region (sq_ev rfl (ev_as (v := .raw _) jz) ?_)
  refine sq_nil ?_
  refine aw_seq ?_
  refine aw_seq ?_
  refine aw_region (sq_ev rfl (ev_mv (v := .sl _ _) jz) ?_)
  refine sq_isnil rfl sl31.h jz jz (fun hnil => ?_) ?_
  · refine sq_nil ?_
    refine aw_true jz ?_
    refine aw_seq ?_
    refine aw_region (sq_ev rfl (ev_as (v := .raw _) jz) ?_)
    refine sq_nil ?_
    obtain rfl : l = [] := List.map_eq_nil_iff.1 hnil
    refine aw_sub (sub_token 2 1 jz) ?_
    refine aw_ret ?_
    exact ⟨rfl, _, rfl, rfl, rfl⟩
  · refine sq_nil ?_
    refine aw_false jz ?_
    refine aw_skip ?_
    refine aw_seq ?_
    refine aw_region (sq_ev rfl (ev_buildSlice (es := []) sf31.h rfl rfl rfl rfl) ?_)
    refine sq_ev rfl (ev_mv (v := .sl _ _) jz) ?_
    refine sq_append_new rfl sf31.h Tryz.underlying31 jz jz (by simp; omega) (by simp; omega) ?_
    refine sq_ev rfl (ev_as (v := .own _ _ _) jz) ?_
    refine sq_nil (aw_ret ?_)
    exact ⟨rfl, _, rfl, rfl, congrArg (fun n => H0 ++ [AObj.tok n]) (by simp)⟩
theorem put_zero {W long : Nat} (hW : W ≤ 3) (hlo : long ≤ 4) {e : Env} {l m : Nat} {st : Bool} {T : Nat → List AObj} {xs : List AV} (it : ItD e l m st T xs) {now : List Int} {a : Nat} {G : List AObj} (hn : now.length = long) (hkm : st = true → a < m) (hseg : ∀ i y, (srch W 0 now)[i]? = some y → xs[a + i]? = some (ints y)) : ACallE e Tryz.prog 123 (ints now :: putC W long l (T 0).length) (T (a) ++ (putO W long l (T 0).length ++ G)) (PutV W long l m st T (a) (W ^ 0)) := by
  refine acallE_of_marks (rs := [.tmp 6]) Tryz.func123 rfl rfl (Nat.le_of_ble_eq_true rfl) fun e0 hle he0 => ?_
  refine aw_seq ?_
  have hTa := it.hT a
  have hxa : xs[a]? = some (ints now) := hseg 0 now (by rw [srch_zero]; rfl)
  have ham : a < m := by cases hst : st with | true => exact hkm hst | false => (have h1 := it.all hst; have := lt_of_get? hxa; omega)
  refine wz 4 ?_
  refine sq_ev rfl (ev_less (ev_eql jz jz) (Less.eq (b := B true) (by simp [hn]))) ?_
  refine wz 3 ?_
  refine sq_yield hle rfl jz ?_ (it.hy _ _ ham hxa _) ?_
  ·exact jz
  refine wz 1 ?_
  exact ⟨_, .raw _, rfl, rfl, goes m st a, rfl, fun h => ⟨(goesD_no h).1, Nat.le_of_eq (goesD_no h).2.symm, _, congrArg (fun n => T n ++ (putO W long l (T 0).length ++ G)) (goesD_no h).2⟩, fun h => ⟨goesD_yes h ham, G, rfl⟩⟩
theorem put_succ {W long : Nat} (hW : W ≤ 3) (hlo : long ≤ 4) {e : Env} {l m : Nat} {st : Bool} {T : Nat → List AObj} {xs : List AV} (it : ItD e l m st T xs) {k : Nat} (ih : ∀ (now : List Int) (a : Nat) (G : List AObj), now.length + k = long → (st = true → a < m) → (∀ i y, (srch W k now)[i]? = some y → xs[a + i]? = some (ints y)) → ACallE e Tryz.prog 123 (ints now :: putC W long l (T 0).length) (T (a) ++ (putO W long l (T 0).length ++ G)) (PutV W long l m st T (a) (W ^ k))) {now : List Int} {a : Nat} {G : List AObj} (hn : now.length + (k + 1) = long) (hkm : st = true → a < m) (hseg : ∀ i y, (srch W (k + 1) now)[i]? = some y → xs[a + i]? = some (ints y)) : ACallE e Tryz.prog 123 (ints now :: putC W long l (T 0).length) (T (a) ++ (putO W long l (T 0).length ++ G)) (PutV W long l m st T (a) (W ^ (k + 1))) := by
  refine acallE_of_marks (rs := [.tmp 6]) Tryz.func123 rfl rfl (Nat.le_of_ble_eq_true rfl) fun e0 hle he0 => ?_
  refine aw_seq ?_
  have hTa := it.hT a
  refine wz 4 ?_
  refine sq_ev rfl (ev_less (ev_eql jz jz) (Less.eq (b := B false) (by simp; omega))) ?_
  refine wz 3 ?_
  refine aw_loopk (ι := { x : Nat × List AObj // x.1 ≤ W ∧ (st = true → a + x.1 * W ^ k < m) }) [0, 4, 15] (fun g => [(16, I (g.1.1 : Nat))]) (fun H g => T (a + g.1.1 * W ^ k) ++ (putO W long l (T 0).length ++ g.1.2)) (fun g => W - g.1.1) (⟨(0, G), Nat.zero_le _, by simpa using hkm⟩) ⟨jz, jz, jz, jz, trivial⟩ (congrArg (fun n => T n ++ (putO W long l (T 0).length ++ G)) (show a + 0 * W ^ k = a by rw [Nat.zero_mul]; rfl)) ?_
  rintro ⟨⟨n, G1⟩, hnn, hkd⟩
  refine nz ?_
  dsimp only at hnn hkd
  have hTn := it.hT (a + n * W ^ k)
  refine wz 1 ?_
  refine iz (fun c_17 c_17' => ?_) (fun c_17 c_17' => ?_)
  ·have hnl : n < W := by omega
   have eD : a + n * W ^ k + W ^ k = a + (n + 1) * W ^ k := by rw [Nat.succ_mul]; omega
   refine vz 2 ?_
   refine sq_nil ?_
   refine aw_seq ?_
   refine nz ?_
   refine aw_drawcm 6 [] [2, 5] _ mo rfl rfl (by kernel_rfl) rfl (by kernel_rfl) (HSub.refl _) ?_
   refine dc_ev rfl (ev_load jz (vx1 hTn) ty158.h rfl) ?_
   first | refine dc_ev rfl (ev_mv (v := .sl _ _) jz) ?_ | refine dc_ev rfl (ev_mv (v := .own _ _ _) jz) ?_ | refine dc_ev rfl (ev_mv (v := .raw _) jz) ?_ | refine dc_ev rfl (ev_mv (v := .slx _ _) jz) ?_ | refine dc_ev rfl (ev_mv (v := .msl _ _ _ _) jz) ?_
   refine dc_eff (H' := T (a + n * W ^ k) ++ (putO W long l (T 0).length ++ (G1 ++ [.tok now.length]))) rfl rfl (eff_call (args := [ints now]) rfl en94.h jz ⟨jz, trivial⟩ (clone_own now (by omega) (T (a + n * W ^ k) ++ (putO W long l (T 0).length ++ G1)) _ (appG (T (a + n * W ^ k)) (putO W long l (T 0).length) G1 _).symm)) (HSub.of_prefix (pfxG (T (a + n * W ^ k)) (putO W long l (T 0).length) G1 _)) ?_
   refine dc_ev rfl (ev_mv (v := .raw _) jz) ?_
   refine dc_ev rfl (ev_buildSlice (es := [[_]]) sf31.h rfl rfl rfl rfl) ?_
   refine dc_eff rfl rfl (eff_appG rfl sf31.h Tryz.underlying31 rfl rfl (by simp) (less_slx 1 [[I (n : Int)]]) (by simp; omega) (by simp; omega)) (HSub.of_prefix (pfxG (T (a + n * W ^ k)) (putO W long l (T 0).length) G1 _)) ?_
   refine dc_nil ⟨fun _ => ?_, fun h => absurd rfl h⟩
   refine sq_callE (es := e) hle rfl en123.h jz (args := ints (now ++ [(n : Int)]) :: putC W long l (T 0).length) ⟨(less_own _ _ _).trans (Less.eq (by simp)), jz, jz, jz, jz, trivial⟩ (ih (now ++ [(n : Int)]) (a + n * W ^ k) _ (by simp; omega) hkd (fun i y hi => by have := hseg _ y (srch_get (by omega) hi); rwa [← Nat.add_assoc] at this)) ?_ (by rintro v H' ⟨_, h, _⟩; cases h)
   rintro _ H3 ⟨c, hcv, hcf, hct⟩
   cases hcv
   refine wz 1 ?_
   refine iz (fun c_26 c_26' => ?_) (fun c_26 c_26' => ?_)
   ·obtain ⟨hst, hge, X, rfl⟩ := hcf (by simpa using c_26)
    refine wz 1 ?_
    exact ⟨_, .raw _, rfl, rfl, false, rfl, fun _ => ⟨hst, by have h2 := Nat.mul_le_mul_right (W ^ k) (Nat.succ_le_of_lt hnl); rw [Nat.pow_succ, Nat.mul_comm (W ^ k) W]; rw [Nat.succ_mul] at h2; omega, X, rfl⟩, fun h => by cases h⟩
   obtain ⟨hlt, G2, rfl⟩ := hct (by simpa using c_26)
   have hnx : st = true → a + (n + 1) * W ^ k < m := by rw [← eD]; exact hlt
   refine wz 2 ?_
   exact ⟨⟨(n + 1, G2), by simp only; omega, hnx⟩, by simp only; omega, Sub.at ⟨jz, jz, jz, jz, trivial⟩ (congrArg (fun d => T d ++ (putO W long l (T 0).length ++ G2)) eD)⟩
  obtain rfl : n = W := by omega
  refine wz 1 ?_
  exact ⟨_, .raw _, rfl, rfl, true, rfl, fun h => (by cases h), fun _ => by rw [Nat.pow_succ, Nat.mul_comm (n ^ k) n]; exact ⟨hkd, G1, rfl⟩⟩
/-- **The search**, from any beginning. -/
theorem put_call {W long : Nat} (hW : W ≤ 3) (hlo : long ≤ 4) {e : Env} {l m : Nat} {st : Bool} {T : Nat → List AObj} {xs : List AV} (it : ItD e l m st T xs) : ∀ (k : Nat) (now : List Int) (a : Nat) (G : List AObj), now.length + k = long → (st = true → a < m) → (∀ i y, (srch W k now)[i]? = some y → xs[a + i]? = some (ints y)) → ACallE e Tryz.prog 123 (ints now :: putC W long l (T 0).length) (T (a) ++ (putO W long l (T 0).length ++ G)) (PutV W long l m st T (a) (W ^ k))
  | 0, now, a, G, hn, hkm, hseg => put_zero hW hlo it (by omega) hkm hseg
  | k + 1, now, a, G, hn, hkm, hseg => put_succ hW hlo it (fun now a G h1 h2 h3 => put_call hW hlo it k now a G h1 h2 h3) hn hkm hseg
theorem lists1_call {W long : Nat} (hW : W ≤ 3) (hlo : long ≤ 4) {e : Env} {l m : Nat} {st : Bool} {T : Nat → List AObj} (it : ItD e l m st T ((wrds W long).map ints)) : ACallE e Tryz.prog 122 [.fn (.yield l) [] [], .iptr [I (long : Nat)], .iptr [I (W : Nat)]] (T 0) (fun y H' => y = .ret (.tup []) ∧ ∃ X, H' = T m ++ X) := by
  refine acallE_of_marks (rs := []) Tryz.func122 rfl rfl (Nat.le_of_ble_eq_true rfl) fun e0 hle he0 => ?_
  rw [nil_pre (T 0)]
  refine wz 0 ?_
  refine sq_boxP (H0 := T 0) (X := []) (a := .fn (.yield l) [] []) rfl jz rfl ?_
  refine sq_frz (A := T 0) (X := []) [1, 2] 3 rfl ?_
  refine wz 0 ?_
  refine sq_allocP (H0 := T 0) (X := [.dead]) rfl z158.h ?_
  refine wz 1 ?_
  refine sq_storeE (A := T 0) (X := [.dead]) rfl rfl jz jz rfl ty158.h rfl rfl ?_
  refine sq_nil ?_
  refine aw_norm (H' := T 0 ++ (putO W long l (T 0).length ++ [])) (by simp only [setP]; rfl) ?_
  refine wz 0 ?_
  refine sq_ev rfl (ev_load jz (vx1 (W := W) (long := long) (l := l) (G := []) rfl) ty158.h rfl) ?_
  refine sq_callE (es := e) hle rfl en123.h jz (args := ints [] :: putC W long l (T 0).length) ⟨less_nil 1, jz, jz, jz, jz, trivial⟩ (put_call hW hlo it long [] 0 [] (by simp) it.pos (fun i y hi => by rw [Nat.zero_add, List.getElem?_map, ← srch_nil, hi]; rfl)) ?_ (by rintro v H' ⟨_, h, _⟩; cases h)
  rintro _ H3 ⟨c, hcv, hcf, hct⟩
  cases hcv
  refine sq_nil ?_
  refine ⟨H3, .tup [], rfl, rfl, rfl, ?_⟩
  cases c with
  | false => exact (hcf rfl).2.2
  | true =>
    obtain ⟨h1, G, h5⟩ := hct rfl
    rw [Nat.zero_add] at h1 h5
    have hst : st = false := by
      cases h : st with
      | false => rfl
      | true => have h2 := h1 h; have h3 := it.hm; rw [List.length_map, wrds_len] at h3; exact absurd h2 (Nat.not_lt.2 h3)
    have h4 := it.all hst
    rw [List.length_map, wrds_len] at h4
    exact ⟨_, by rw [h4]; exact h5⟩
/-- **All lists of words**, in order. -/
theorem lists_iter {W long : Nat} (hW : W ≤ 3) (hlo : long ≤ 4) : AIter2 Tryz.prog 122 [] [.iptr [I (long : Nat)], .iptr [I (W : Nat)]] ((wrds W long).map ints) := by
  intro m st hm h1 h2 l T e vs hT hin ok hH hs hy
  refine (lists1_call hW hlo ⟨hT, hm, h1, h2, fun i a hi ha X => hy i a hi ha X⟩ e vs (.refl e) ok hH hs).mono ?_
  rintro y w' ⟨ax, e', rfl, ok', fr, ⟨rfl, hX⟩, u, rfl, hu⟩
  exact ⟨u, e', rfl, rfl, ok', fr, hX⟩
theorem lists_pure (W long : Nat) : APure Tryz.prog 71 [I (W : Nat), I (long : Nat)] (.fn (.func 122) [] [.iptr [I (long : Nat)], .iptr [I (W : Nat)]]) := by
  refine ap Tryz.func71 (fun e0 he0 => ?_)
  refine vz 3 ?_
  refine sq_nil ?_
  refine aw_seq ?_
  refine aw_sub (sub_iptrK [3, 4] 2 (j := 0) (l := [I (W : Nat)]) rfl rfl) ?_
  refine aw_sub (sub_iptrK [2, 4] 3 (j := 1) (l := [I (long : Nat)]) rfl rfl) ?_
  refine wz 2 ?_
  exact retQ_pure (v := .fn _ _ _) rfl rfl jz
end Go.Proofs.YtnbjaepkbabkhaaGreat
namespace Go.Proofs.YtnbjaepkbabkhaaGreat
open Go Go.Ab Br Hd Vr
open Ni hiding fw bw lo hi can
instance en120 : EnT Tryz.prog 120 := ⟨Ent.of Tryz.func120 (by kernel_rfl) rfl⟩
instance en121 : EnT Tryz.prog 121 := ⟨Ent.of Tryz.func121 (by kernel_rfl) rfl⟩
instance en161 : EnT Tryz.prog 161 := ⟨Ent.of Tryz.func161 (by kernel_rfl) rfl⟩
instance en162 : EnT Tryz.prog 162 := ⟨Ent.of Tryz.func162 (by kernel_rfl) rfl⟩
instance en163 : EnT Tryz.prog 163 := ⟨Ent.of Tryz.func163 (by kernel_rfl) rfl⟩
instance en187 : EnT Tryz.prog 187 := ⟨Ent.of Tryz.func187 (by kernel_rfl) rfl⟩
instance en188 : EnT Tryz.prog 188 := ⟨Ent.of Tryz.func188 (by kernel_rfl) rfl⟩
instance en189 : EnT Tryz.prog 189 := ⟨Ent.of Tryz.func189 (by kernel_rfl) rfl⟩
instance ty154 : TyF Tryz.prog 154 true 3 := ⟨by kernel_rfl⟩
instance ty207 : TyF Tryz.prog 207 false 1 := ⟨by kernel_rfl⟩
instance ty241 : TyF Tryz.prog 241 true 2 := ⟨by kernel_rfl⟩
def Mk (N : Nat) (G : List AObj) (df : List ADef) : Prop := ∃ G', ∀ A Z, A.length = N → takeMarks (A ++ (G ++ Z)) df = some (A ++ (G' ++ Z))
theorem mk_nil (N : Nat) (G : List AObj) : Mk N G [] := ⟨G, fun _ _ _ => rfl⟩
theorem mk_push {N : Nat} {G : List AObj} {df : List ADef} (h : Mk N G df) : Mk N (G ++ [.raw (.deferred (some []))]) (.mark (N + G.length) :: df) := by
  obtain ⟨G', h⟩ := h
  refine ⟨G' ++ [.raw (.deferred none)], fun A Z hA => ?_⟩
  have e1 : (A ++ (G ++ [AObj.raw (.deferred (some []))] ++ Z))[N + G.length]? = some (AObj.raw (.deferred (some []))) := by
    rw [← hA, List.getElem?_append_right (Nat.le_add_right _ _), Nat.add_sub_cancel_left, List.append_assoc, List.getElem?_append_right (Nat.le_refl _), Nat.sub_self]; rfl
  have e2 : (A ++ (G ++ [AObj.raw (.deferred (some []))] ++ Z)).set (N + G.length) (.raw (.deferred none)) = A ++ (G ++ ([AObj.raw (.deferred none)] ++ Z)) := by
    rw [← hA, setP, List.append_assoc, List.set_append_right _ _ (Nat.le_refl _), Nat.sub_self]; rfl
  show (match (A ++ (G ++ [AObj.raw (.deferred (some []))] ++ Z))[N + G.length]? with | some (.raw (.deferred (some []))) => takeMarks ((A ++ (G ++ [AObj.raw (.deferred (some []))] ++ Z)).set (N + G.length) (.raw (.deferred none))) df | _ => none) = _
  rw [e1]
  show takeMarks ((A ++ (G ++ [AObj.raw (.deferred (some []))] ++ Z)).set (N + G.length) (.raw (.deferred none))) df = _
  rw [e2, h A _ hA, List.append_assoc]
theorem mk_take {N : Nat} {G : List AObj} {df : List ADef} (h : Mk N G df) {A : List AObj} (hA : A.length = N) : ∃ G', takeMarks (A ++ G) df = some (A ++ G') := by
  obtain ⟨G', h⟩ := h
  have := h A [] hA
  rw [List.append_nil, List.append_nil] at this
  exact ⟨G', this⟩
theorem aw_loopd {c : Ctx} {s : St} {Q : AExit → St → Prop} {ι : Type} (ks : List Nat) (V : ι → List (Nat × AV)) (Hf : ι → List AObj) (Df : ι → List ADef) (m : ι → Nat) (i0 : ι) (h0 : LessS s.sl (V i0 ++ keepS s.sl ks)) (hH : Hf i0 = s.H) (hD : Df i0 = s.df) {body : Code}
    (hb : ∀ i, AWP c body (AExit.then (fun s' => ∃ j, m j < m i ∧ Sub c s' ⟨V j ++ keepS s.sl ks, Hf j, Df j⟩) Q) ⟨V i ++ keepS s.sl ks, Hf i, Df i⟩) : AWP c (.loop body) Q s :=
  aw_loop (fun i => ⟨V i ++ keepS s.sl ks, Hf i, Df i⟩) m i0 (by rw [hH, hD]; exact Sub.slots h0) hb
theorem Sub.atD {c : Ctx} {s : St} {sl' : List (Nat × AV)} {H' : List AObj} {D' : List ADef} (h : LessS s.sl sl') (hH : s.H = H') (hD : s.df = D') : Sub c s ⟨sl', H', D'⟩ := by subst hH; subst hD; exact Sub.slots h
theorem lns_get {n i : Nat} {x : AV} {k : Nat} (h : ((wrds n k).map ints)[i]? = some x) : ∃ y, (wrds n k)[i]? = some y ∧ x = ints y := by
  rw [List.getElem?_map] at h
  cases hy : (wrds n k)[i]? with
  | none => rw [hy] at h; cases h
  | some y => rw [hy] at h; exact ⟨y, rfl, (Option.some.inj h).symm⟩
theorem ints_pureL {L : List (List Int)} {x : AV} (h : x ∈ L.map ints) : x.pureB = true := by
  obtain ⟨l, _, rfl⟩ := List.mem_map.1 h; simp [AV.pureB]
structure ItV (e : Env) (l m : Nat) (st : Bool) (T : Nat → List AObj) (xs : List AV) : Prop extends ItD e l m st T xs where
  hin : ∀ i, i ≤ m → objsIn (T 0).length (T i) = true
abbrev AK (W k : Nat) : Nat := (lnsK W k).length
abbrev liV (W m : Nat) (st : Bool) (k : Nat) : Bool := st && decide (m ≤ AK W k + W ^ k)
abbrev miV (W m : Nat) (st : Bool) (k : Nat) : Nat := if liV W m st k = true then m - AK W k else W ^ k
theorem lns_total (W : Nat) {m k : Nat} (hm : m = (lns W).length) (hk : k < 5) : AK W k + W ^ k ≤ m := by
  rw [hm, ← lnsK_len]
  have := (lnsK_pre W (k + 1) (5 - (k + 1))).length_le
  rwa [show k + 1 + (5 - (k + 1)) = 5 by omega] at this
theorem lines1_call {b : Bk} (hw : 1 ≤ b.words ∧ b.words ≤ 3) {W : Nat} (hW : W = b.words.toNat) {e : Env} {l m : Nat} {st : Bool} {T : Nat → List AObj} (it : ItV e l m st T ((lns W).map ints)) : ACallE e Tryz.prog 187 [.fn (.yield l) [] [], .iptr (bkC b)] (T 0) (fun y H' => y = .ret (.tup []) ∧ ∃ X, H' = T m ++ X) := by
  refine acallE_of_marks (rs := []) Tryz.func187 rfl rfl (Nat.le_of_ble_eq_true rfl) fun e0 hle he0 => ?_
  rw [nil_pre (T 0)]
  refine aw_seq ?_
  have hT0 := it.hin 0 (Nat.zero_le _)
  have hW3 : W ≤ 3 := by omega
  have hWb : ((W : Nat) : Int) = b.words := by omega
  have hal : st = false → m = (lns W).length := fun h => by have := it.all h; rwa [List.length_map] at this
  refine wz 0 ?_
  refine sq_boxP (H0 := T 0) (X := []) (a := .fn (.yield l) [] []) rfl jz rfl ?_
  refine sq_frz (A := T 0) (X := []) [0, 1] 2 rfl ?_
  refine vz 1 ?_
  refine sq_nil ?_
  refine aw_block ?_
  -- NOTE: varying slots are [4, 5]
  refine aw_loopd (ι := { x : Nat × List AObj × List ADef // x.1 ≤ 5 ∧ Mk (T 0).length x.2.1 x.2.2 ∧ objsIn (T 0).length x.2.1 = true ∧ (st = true → AK W x.1 < m) }) [1, 2, 12] (fun g => [(5, I (g.1.1 : Nat))]) (fun g => T (AK W g.1.1) ++ g.1.2.1) (fun g => g.1.2.2) (fun g => 5 - g.1.1) (⟨(0, [.dead], []), by omega, mk_nil _ _, rfl, it.pos⟩) ⟨jz, jz, jz, jz, trivial⟩ rfl rfl ?_
  rintro ⟨⟨n, G, df⟩, hn, hmk, hGi, hkd⟩
  refine nz ?_
  dsimp only at hn hmk hGi hkd
  have hTk := it.hT (AK W n)
  refine wz 1 ?_
  refine iz (fun c_6 c_6' => ?_) (fun c_6 c_6' => ?_)
  ·have hk5 : n < 5 := by omega
   refine vz 2 ?_
   refine sq_nil ?_
   refine aw_seq ?_
   have hmi : miV W m st n ≤ W ^ n := by unfold miV; split <;> rename_i hq <;> first | omega | (simp only [liV, Bool.and_eq_true, decide_eq_true_eq] at hq; omega)
   have hmle : ∀ u, u ≤ miV W m st n → AK W n + u ≤ m := fun u hu => by unfold miV at hu; split at hu <;> rename_i hl <;> first | (have := hkd (by simp only [liV, Bool.and_eq_true] at hl; exact hl.1); omega) | (cases hst : st with | false => (have h1 := lns_total W (hal hst) hk5; omega) | true => (simp only [liV, hst, Bool.true_and, decide_eq_true_eq] at hl; omega))
   have hlists := lists_pure W n
   rw [hWb] at hlists
   have hit := lists_iter (W := W) (long := n) hW3 (by omega)
   rw [hWb] at hit
   refine wz 3 ?_
   refine kz az (hlists) ?_
   refine sq_nil ?_
   refine aw_block ?_
   refine nz ?_
   refine aw_rangeFuncP (xs := (wrds W n).map ints) (fun k => T (AK W n + k) ++ G) (miV W m st n) (if liV W m st n = true then some .ret else none) (by rw [List.length_map, wrds_len]; exact hmi) (fun h => by rw [List.length_map, wrds_len]; unfold miV; rw [if_neg (by intro q; rw [q] at h; cases h)]) (fun h => by have hl : liV W m st n = true := (by cases q : liV W m st n with | true => rfl | false => (rw [q] at h; exact absurd rfl h)); unfold miV; rw [if_pos hl]; have h1 := hkd (by simp only [liV, Bool.and_eq_true] at hl; exact hl.1); omega) (jo_ret _) (enters_outer rfl) dd_in jz en122.h (hit) (rfl) (fun u => by show (T (AK W n + u) ++ G).length = (T (AK W n) ++ G).length; simp [hTk, it.hT (AK W n + u)]) (fun k hk => by rw [objsIn_append, Bool.and_eq_true]; exact ⟨objsIn_mono (by simp [hTk]) (it.hin _ (hmle _ hk)), objsIn_mono (by simp [hTk]) hGi⟩) (fun x hx => ints_pureL hx) rfl rfl ?_ ?_
   ·intro q i x e2 hi hx he2 hlp hce
    obtain ⟨y, hy, rfl⟩ := lns_get hx
    have hget : ((lns W).map ints)[AK W n + i]? = some (ints y) := by rw [List.getElem?_map, lns_at (by omega) hy]; rfl
    have hlt : AK W n + i < m := by cases hl : liV W m st n with | true => (simp only [miV, hl, if_true] at hi; omega) | false => (cases hst : st with | false => (have h1 := lns_total W (hal hst) (show n < 5 by omega); simp only [miV, hl] at hi; simp at hi; omega) | true => (simp only [miV, hl] at hi; simp at hi; simp only [liV, hst, Bool.true_and, decide_eq_false_iff_not] at hl; omega))
    refine nz ?_
    refine wz 2 ?_
    refine sq_yield (hle.trans hce) rfl jz ?_ (it.hy _ _ hlt hget _) ?_
    ·exact jz
    refine wz 1 ?_
    refine iz (fun c_16 c_16' => ?_) (fun c_16 c_16' => ?_)
    ·have hg : goes m st (AK W n + i) = false := by simpa using c_16
     obtain ⟨hst, hgm⟩ := goesD_no hg
     have hl : liV W m st n = true := by have h1 := hi; unfold miV at h1; simp only [liV, hst, Bool.true_and, decide_eq_true_eq]; split at h1 <;> omega
     have hJ : (liV W m st n && decide (i + 1 = miV W m st n)) = true := by rw [hl, Bool.true_and, decide_eq_true_eq]; simp only [miV, hl, if_true]; omega
     refine wz 0 ?_
     exact ⟨⟨[], (List.append_nil _).symm⟩, rfl, je_yes hJ⟩
    have hg : goes m st (AK W n + i) = true := by simpa using c_16
    have hgy := goesD_yes hg hlt
    have hJ : (liV W m st n && decide (i + 1 = miV W m st n)) = false := by cases hl : liV W m st n with | false => rfl | true => (rw [Bool.true_and, decide_eq_false_iff_not]; have hst : st = true := (by simp only [liV, Bool.and_eq_true] at hl; exact hl.1); have := hgy hst; simp only [miV, hl, if_true]; omega)
    refine wz 0 ?_
    exact ⟨⟨[], (List.append_nil _).symm⟩, rfl, je_no hJ⟩
   ·intro ax hax
    rcases Bool.eq_false_or_eq_true (liV W m st n) with hl | hl
    ·obtain rfl := je_ret hl hax
     obtain ⟨G4, hG4⟩ := mk_take (mk_push hmk) (A := T (AK W n + miV W m st n)) (it.hT _)
     refine ⟨T (AK W n + miV W m st n) ++ G4, .tup [], ?_, rfl, rfl, G4, ?_⟩
     ·show takeMarks ((T (AK W n + miV W m st n) ++ G) ++ [AObj.raw (.deferred (some []))]) _ = _; rw [List.append_assoc, show (T (AK W n) ++ G).length = (T 0).length + G.length by simp [hTk]]; exact hG4
     ·rw [show AK W n + miV W m st n = m by simp only [miV, hl, if_true]; have := hkd (by simp only [liV, Bool.and_eq_true] at hl; exact hl.1); omega]
    ·obtain rfl := je_nor hl hax
     have hmiv : miV W m st n = W ^ n := by unfold miV; rw [if_neg (by rw [hl]; simp)]
     rw [hmiv]
     refine nz ?_
     refine wz 2 ?_
     exact ⟨⟨(n + 1, G ++ [.raw (.deferred (some []))], .mark ((T 0).length + G.length) :: df), by simp only; omega, mk_push hmk, by rw [objsIn_append, hGi]; rfl, fun hst => by show (lnsK W (n + 1)).length < m; rw [lnsK_len]; have h2 : ¬ m ≤ (lnsK W n).length + W ^ n := (by simpa only [liV, hst, Bool.true_and, decide_eq_false_iff_not] using hl); omega⟩, by simp only; omega, Sub.atD ⟨jz, jz, jz, jz, trivial⟩ ((by show (T (AK W n + W ^ n) ++ G) ++ [AObj.raw (.deferred (some []))] = T (lnsK W (n + 1)).length ++ (G ++ [AObj.raw (.deferred (some []))]); rw [lnsK_len]; exact List.append_assoc _ _ _)) ((by show ADef.mark (T (AK W n) ++ G).length :: df = _; rw [List.length_append, hTk]))⟩
  obtain rfl : n = 5 := by omega
  refine aw_exit ?_
  obtain ⟨G4, hG4⟩ := mk_take hmk (A := T (AK W 5)) (it.hT _)
  refine ⟨T (AK W 5) ++ G4, .tup [], hG4, rfl, rfl, G4, ?_⟩
  cases hst : st with
  | false => rw [hal hst]
  | true => have h1 := hkd hst; have h2 := it.hm; rw [List.length_map] at h2; exact absurd h1 (Nat.not_lt.2 h2)
end Go.Proofs.YtnbjaepkbabkhaaGreat
namespace Go.Proofs.YtnbjaepkbabkhaaGreat
open Go Go.Ab Br Hd Vr
open Ni hiding fw bw lo hi can
instance ar269 : ArE Tryz.prog 269 5 3 1 := ⟨by kernel_rfl⟩
instance ty269 : TyF Tryz.prog 269 true 5 := ⟨by kernel_rfl⟩
instance z269 : ZeO Tryz.prog 269 [.raw (.int .i64 0), .raw (.int .i64 0), .raw (.int .i64 0), .raw (.int .i64 0), .raw (.int .i64 0)] := ⟨by kernel_rfl⟩
theorem ev_min3 {P : Program} {r : Option Nat} {H : List AObj} {ρ : Operand → AV} {d : Option Tmp} {t : TypeId} {p : String} {af : Array Edge} {g : Option (Nat × Bool)} {x y z : Operand} {k : IntKind} {m n q : Int} {ats : Array TypeId} (hx : Less (ρ x) (.raw (.int k m))) (hy : Less (ρ y) (.raw (.int k n))) (hz : Less (ρ z) (.raw (.int k q))) :
    Ev P r ⟨d, .call ⟨.builtin .min, #[x, y, z], ats⟩, t, p, af, g⟩ H ρ (.raw (.int k (min (min m n) q))) :=
  Ev.pure (by intro c h; cases h) fun e ρc ok hE hs => by
    have e1 := rep_raw hx (hs x (by simp [Op.operands, Call.operands]))
    have e2 := rep_raw hy (hs y (by simp [Op.operands, Call.operands]))
    have e3 := rep_raw hz (hs z (by simp [Op.operands, Call.operands]))
    have f1 : (if n < m then n else m) = min m n := by split <;> omega
    have f2 : (if q < min m n then q else min m n) = min (min m n) q := by split <;> omega
    refine ⟨.int k (min (min m n) q), by simp [execOp, resolve, invoke, builtin, Builtin.min_, Builtin.min2, e1, e2, e3, f1, f2], ?_⟩
    rw [Rep]
abbrev rowW (f : Nat → Nat) : List AV := [I (f 0 : Nat), I (f 1 : Nat), I (f 2 : Nat), I (f 3 : Nat), I (f 4 : Nat)]
def setF (f : Nat → Nat) (j v : Nat) (i : Nat) : Nat := if i = j then v else f i
theorem rowGet {f : Nat → Nat} : ∀ {k : Nat}, k < 5 → (rowW f)[0 + k * 1]? = some (I (f k : Nat))
  | 0, _ => rfl
  | 1, _ => rfl
  | 2, _ => rfl
  | 3, _ => rfl
  | 4, _ => rfl
  | k + 5, h => by omega
theorem rowSet {f : Nat → Nat} {v : Nat} : ∀ {k : Nat}, k < 5 → (rowW f).take (0 + k * 1) ++ [I (v : Nat)] ++ (rowW f).drop (0 + k * 1 + [I (v : Nat)].length) = rowW (setF f k v)
  | 0, _ => rfl
  | 1, _ => rfl
  | 2, _ => rfl
  | 3, _ => rfl
  | 4, _ => rfl
  | k + 5, h => by omega
theorem rowEq {f g : Nat → Nat} (h : ∀ i, i < 5 → f i = g i) : rowW f = rowW g := by
  unfold rowW
  rw [h 0 (by omega), h 1 (by omega), h 2 (by omega), h 3 (by omega), h 4 (by omega)]
def r0 (k i : Nat) : Nat := if i ≤ k then i else 0
def rA (l m : List Int) (a i : Nat) : Nat := if i ≤ m.length then dist (l.take a) (m.take i) else 0
def rB (l m : List Int) (a k i : Nat) : Nat := if i ≤ k then dist (l.take (a + 1)) (m.take i) else rA l m a i
theorem rA_le (l m : List Int) {a i : Nat} (ha : a ≤ 4) (hi : i ≤ 4) : rA l m a i ≤ 8 := by
  unfold rA
  split
  · have := dist_le (l.take a) (m.take i)
    rw [List.length_take, List.length_take] at this; omega
  · omega
theorem rB_le (l m : List Int) {a k i : Nat} (ha : a ≤ 3) (hi : i ≤ 4) : rB l m a k i ≤ 8 := by
  unfold rB
  split
  · have := dist_le (l.take (a + 1)) (m.take i)
    rw [List.length_take, List.length_take] at this; omega
  · exact rA_le l m (by omega) hi
theorem r0_zero : rowW (fun _ => 0) = rowW (r0 0) := rowEq fun i _ => by unfold r0; split <;> omega
theorem r0_succ (k : Nat) : rowW (setF (r0 k) (k + 1) (k + 1)) = rowW (r0 (k + 1)) := rowEq fun i _ => by
  unfold setF r0; split <;> split <;> (try split) <;> omega
theorem r0_all (l m : List Int) : rowW (r0 m.length) = rowW (rA l m 0) := rowEq fun i _ => by
  unfold r0 rA
  split
  · rw [List.take_zero, dist_nil, List.length_take]; omega
  · rfl
theorem rB_zero {l m : List Int} {a : Nat} (ha : a < l.length) : rowW (setF (rA l m a) 0 (rA l m a 0 + 1)) = rowW (rB l m a 0) := rowEq fun i _ => by
  unfold setF rB
  by_cases h : i = 0
  · subst h
    rw [if_pos rfl, if_pos (Nat.le_refl _)]
    unfold rA
    rw [if_pos (Nat.zero_le _), List.take_zero, dist_nil', dist_nil', List.length_take, List.length_take]; omega
  · rw [if_neg h, if_neg (by omega)]
theorem rB_all {l m : List Int} {a : Nat} : rowW (rB l m a m.length) = rowW (rA l m (a + 1)) := rowEq fun i _ => by
  unfold rB rA
  split <;> rfl
theorem take_snoc {l : List Int} {a : Nat} (h : a < l.length) : l.take (a + 1) = l.take a ++ [l[a]] := List.take_succ_eq_append_getElem h
theorem rB_eq {l m : List Int} {a k : Nat} (ha : a < l.length) (hk : k < m.length) (he : l[a] = m[k]) : rowW (setF (rB l m a k) (k + 1) (rA l m a k)) = rowW (rB l m a (k + 1)) := rowEq fun i _ => by
  unfold setF rB
  by_cases h : i = k + 1
  · subst h
    rw [if_pos rfl, if_pos (Nat.le_refl _), take_snoc ha, take_snoc hk, dist_snoc, if_pos he]
    unfold rA; rw [if_pos (by omega)]
  · rw [if_neg h]
    by_cases h2 : i ≤ k
    · rw [if_pos h2, if_pos (by omega)]
    · rw [if_neg h2, if_neg (by omega)]
theorem rB_ne {l m : List Int} {a k v : Nat} (ha : a < l.length) (hk : k < m.length) (he : ¬ l[a] = m[k]) : rowW (setF (setF (rB l m a k) (k + 1) v) (k + 1) (1 + min (min (rA l m a k) (rA l m a (k + 1))) (rB l m a k k))) = rowW (rB l m a (k + 1)) := rowEq fun i _ => by
  unfold setF
  by_cases h : i = k + 1
  · subst h
    rw [if_pos rfl]
    conv => rhs; unfold rB
    rw [if_pos (Nat.le_refl _), take_snoc ha, take_snoc hk, dist_snoc, if_neg he, ← take_snoc ha, ← take_snoc hk]
    unfold rB rA
    rw [if_pos (Nat.le_refl _), if_pos (by omega), if_pos (by omega)]
  · rw [if_neg h, if_neg h]
    unfold rB
    by_cases h2 : i ≤ k
    · rw [if_pos h2, if_pos (by omega)]
    · rw [if_neg h2, if_neg (by omega)]
theorem rA_last (l m : List Int) : rA l m l.length m.length = dist l m := by unfold rA; rw [if_pos (Nat.le_refl _), List.take_length, List.take_length]
theorem setF_ne {f : Nat → Nat} {j v i : Nat} (h : i ≠ j) : setF f j v i = f i := if_neg h
theorem btw_pure (l m : List Int) (hl : l.length ≤ 4) (hm : m.length ≤ 4) : APure Tryz.prog 161 [ints l, ints m] (I (dist l m : Nat)) := by
  refine ap Tryz.func161 (fun e0 he0 => ?_)
  refine wz 5 ?_
  refine aw_loopk (ι := { k : Nat // k ≤ m.length }) [0, 1, 5, 13] (fun g => [(14, I (g.1 : Nat))]) (fun H g => [.cells (rowW (r0 g.1))]) (fun g => m.length - g.1) (⟨0, Nat.zero_le _⟩) ⟨jz, jz, jz, jz, jz, trivial⟩ (congrArg (fun r => [AObj.cells r]) r0_zero.symm) ?_
  rintro ⟨k, hk⟩
  refine nz ?_
  refine wz 1 ?_
  refine iz (fun c_15 c_15' => ?_) (fun c_15 c_15' => ?_)
  ·have hkL : k < m.length := by omega
   refine wz 6 ?_
   refine sq_ev rfl (ev_index_box (k := k + 1) ar269.h jz jz (by simp <;> omega) (by omega)) ?_
   refine sq_store rfl jz jz rfl rfl ty3.h rfl (Nat.ble_eq_true_of_le (by simp; omega)) ?_
   refine wz 2 ?_
   exact ⟨⟨k + 1, by omega⟩, by simp only; omega, sb 1 ⟨jz, jz, jz, jz, jz, trivial⟩ (hH := (congrArg (fun r => [AObj.cells r]) ((rowSet (f := r0 k) (v := k + 1) (by omega)).trans (r0_succ k))))⟩
  obtain rfl : k = m.length := by omega
  refine wz 3 ?_
  refine aw_loopk (ι := { a : Nat // a ≤ l.length }) [1, 5, 23, 24] (fun g => [(25, I (g.1 : Nat))]) (fun H g => [.cells (rowW (rA l m g.1))]) (fun g => l.length - g.1) (⟨0, Nat.zero_le _⟩) ⟨jz, jz, jz, jz, jz, trivial⟩ (congrArg (fun r => [AObj.cells r]) (r0_all l m).symm) ?_
  rintro ⟨a, ha⟩
  refine nz ?_
  refine wz 1 ?_
  refine iz (fun c_26 c_26' => ?_) (fun c_26 c_26' => ?_)
  ·have haL : a < l.length := by omega
   have hr0 := rA_le l m (a := a) (i := 0) (by omega) (by omega)
   refine vz 11 ?_
   refine sq_nil ?_
   refine aw_seq ?_
   refine aw_norm (H' := [.cells (rowW (setF (rA l m a) 0 (rA l m a 0 + 1))), .cells (rowW (rA l m a))]) rfl ?_
   refine wz 3 ?_
   refine aw_loopk (ι := { k : Nat // k ≤ m.length }) [1, 5, 8, 9, 23, 24, 25, 34, 35] (fun g => [(36, I (g.1 : Nat))]) (fun H g => [.cells (rowW (rB l m a g.1)), .cells (rowW (rA l m a))]) (fun g => m.length - g.1) (⟨0, Nat.zero_le _⟩) ⟨jz, jz, jz, jz, jz, jz, jz, jz, jz, jz, trivial⟩ (congrArg (fun r => [AObj.cells r, .cells (rowW (rA l m a))]) (rB_zero haL).symm) ?_
   rintro ⟨k, hk⟩
   refine nz ?_
   refine wz 1 ?_
   refine iz (fun c_37 c_37' => ?_) (fun c_37 c_37' => ?_)
   ·have hkL : k < m.length := by omega
    refine wz 8 ?_
    refine sq_ev rfl (ev_index_box (k := k) ar269.h jz jz (by simp <;> omega) (by omega)) ?_
    refine sq_ev rfl (ev_load jz rfl ty3.h (rowGet (by omega))) ?_
    refine sq_ev rfl (ev_index_box (k := k + 1) ar269.h jz jz (by simp <;> omega) (by omega)) ?_
    refine sq_store rfl jz jz rfl rfl ty3.h rfl (Nat.ble_eq_true_of_le (by simp; omega)) ?_
    refine sq_nil ?_
    refine aw_seq ?_
    refine aw_norm (H' := [.cells (rowW (setF (rB l m a k) (k + 1) (rA l m a k))), .cells (rowW (rA l m a))]) (congrArg (fun r => [AObj.cells r, .cells (rowW (rA l m a))]) (rowSet (by omega))) ?_
    refine wz 3 ?_
    refine iz (fun c_49 c_49' => ?_) (fun c_49 c_49' => ?_)
    ·have hne : ¬ l[a] = m[k] := by simpa using c_49
     have h1 := rA_le l m (a := a) (i := k) (by omega) (by omega)
     have h2 := rA_le l m (a := a) (i := k + 1) (by omega) (by omega)
     have h3 := rB_le l m (a := a) (k := k) (i := k) (by omega) (by omega)
     refine aw_draw 15 mo (by kernel_rfl) ?_
     refine dz 3 ?_
     refine dr_ev rfl (ev_index_box (k := k) ar269.h jz jz (by simp <;> omega) (by omega)) ?_
     refine dr_ev rfl (ev_load jz rfl ty3.h (rowGet (by omega))) ?_
     refine dz 2 ?_
     refine dr_ev rfl (ev_index_box (k := k + 1) ar269.h jz jz (by simp <;> omega) (by omega)) ?_
     refine dr_ev rfl (ev_load jz rfl ty3.h (rowGet (by omega))) ?_
     refine dz 1 ?_
     refine dr_ev rfl (ev_index_box (k := k) ar269.h jz jz (by simp <;> omega) (by omega)) ?_
     refine dr_ev rfl (ev_less (ev_load jz rfl ty3.h (rowGet (by omega))) (Less.eq (b := I (rB l m a k k : Nat)) (by rw [setF_ne (by omega)]))) ?_
     refine dr_ev rfl (ev_less (ev_min3 jz jz jz) (Less.eq (b := I ((min (min (rA l m a k) (rA l m a (k + 1))) (rB l m a k k) : Nat) : Int)) (congrArg I (by omega)))) ?_
     refine dz 1 ?_
     refine dr_ev rfl (ev_index_box (k := k + 1) ar269.h jz jz (by simp <;> omega) (by omega)) ?_
     refine dr_end ?_
     refine sq_store rfl jz jz rfl rfl ty3.h rfl (Nat.ble_eq_true_of_le (by simp; omega)) ?_
     refine wz 2 ?_
     exact ⟨⟨k + 1, by omega⟩, by simp only; omega, sb 2 ⟨jz, jz, jz, jz, jz, jz, jz, jz, jz, jz, trivial⟩ (hH := (congrArg (fun r => [AObj.cells r, .cells (rowW (rA l m a))]) ((rowSet (v := 1 + min (min (rA l m a k) (rA l m a (k + 1))) (rB l m a k k)) (by omega)).trans (rB_ne haL hkL hne))))⟩
    have heq : l[a] = m[k] := by simpa using c_49
    refine wz 2 ?_
    exact ⟨⟨k + 1, by omega⟩, by simp only; omega, sb 2 ⟨jz, jz, jz, jz, jz, jz, jz, jz, jz, jz, trivial⟩ (hH := (congrArg (fun r => [AObj.cells r, .cells (rowW (rA l m a))]) (rB_eq haL hkL heq)))⟩
   obtain rfl : k = m.length := by omega
   refine wz 2 ?_
   exact ⟨⟨a + 1, by omega⟩, by simp only; omega, sb 1 ⟨jz, jz, jz, jz, jz, trivial⟩ (hH := (congrArg (fun r => [AObj.cells r]) rB_all))⟩
  obtain rfl : a = l.length := by omega
  refine wz 2 ?_
  refine sq_ev rfl (ev_index_box (k := m.length) ar269.h jz jz (by simp <;> omega) (by omega)) ?_
  refine sq_ev rfl (ev_load jz rfl ty3.h (rowGet (by omega))) ?_
  refine wz 1 ?_
  exact rz rfl (Less.eq (by rw [rA_last]))
end Go.Proofs.YtnbjaepkbabkhaaGreat
namespace Go.Proofs.YtnbjaepkbabkhaaGreat
open Go Go.Ab Br Hd Vr
open Ni hiding fw bw lo hi can
instance bi241 : BdI Tryz.prog 241 [.raw (.slice none 0 0), .raw (.int .i64 0)] true [(0, 1), (1, 1)] 0 := ⟨by kernel_rfl⟩
instance en30 : EnT Tryz.prog 30 := ⟨Ent.of Tryz.func30 (by kernel_rfl) rfl⟩
instance en70 : EnT Tryz.prog 70 := ⟨Ent.of Tryz.func70 (by kernel_rfl) rfl⟩
instance fo154_0 : FoF Tryz.prog 154 0 0 85 := ⟨by kernel_rfl⟩
instance fo154_1 : FoF Tryz.prog 154 1 2 3 := ⟨by kernel_rfl⟩
instance sf207 : SlS Tryz.prog 207 241 2 32 := ⟨SlFact.of (by kernel_rfl)⟩
instance sl207 : SlE Tryz.prog 207 241 2 := ⟨by kernel_rfl⟩
instance z207 : ZeO Tryz.prog 207 [.raw (.slice none 0 0)] := ⟨by kernel_rfl⟩
instance z241 : ZeO Tryz.prog 241 [.raw (.slice none 0 0), .raw (.int .i64 0)] := ⟨by kernel_rfl⟩
abbrev pgC (b : Bk) (k : Nat) : List AV := [I b.words, cpsA b.cps, I (k : Nat)]
abbrev cntC (x : List Int × Int) : List AV := [ints x.1, I x.2]
abbrev cnts (l : List (List Int × Int)) : AV := .sl 2 (l.map cntC)
@[simp] theorem inE_cnts (n : Nat) (l : List (List Int × Int)) : AV.inE n (l.map cntC) = true := inE_map fun x _ => by simp [AV.inL, AV.inB]
@[simp] theorem pureE_cnts (l : List (List Int × Int)) : AV.pureE (l.map cntC) = true := pureE_map fun x _ => by simp [AV.pureL, AV.pureB]
theorem lines_iter {b : Bk} (hw : 1 ≤ b.words ∧ b.words ≤ 3) : AIter2 Tryz.prog 187 [] [.iptr (bkC b)] ((lns b.words.toNat).map ints) := by
  intro m st hm h1 h2 l T e vs hT hin ok hH hs hy
  refine (lines1_call hw rfl ⟨⟨hT, hm, h1, h2, fun i a hi ha X => hy i a hi ha X⟩, hin⟩ e vs (.refl e) ok hH hs).mono ?_
  rintro y w' ⟨ax, e', rfl, ok', fr, ⟨rfl, hX⟩, u, rfl, hu⟩
  exact ⟨u, e', rfl, rfl, ok', fr, hX⟩
abbrev hdE (l : List (List Int)) : List (List AV) := l.map fun h => [ints h]
abbrev natI (l : List Nat) : List Int := l.map fun (n : Nat) => (n : Int)
theorem sum_take {l : List Nat} {k : Nat} (h : k < l.length) : (l.take (k + 1)).sum = (l.take k).sum + l[k] := by rw [List.take_succ_eq_append_getElem h, List.sum_append]; simp
theorem sum_le {l : List Nat} {c : Nat} : ∀ (k : Nat), k ≤ l.length → (∀ x ∈ l, x ≤ c) → (l.take k).sum ≤ k * c
  | 0, _, _ => by simp
  | k + 1, h, hx => by
    have ih := sum_le (l := l) (c := c) k (by omega) hx
    rw [sum_take (by omega), Nat.succ_mul]
    have := hx _ (List.getElem_mem (show k < l.length by omega)); omega
def outV (c : List (List Int × Int)) (k J : Nat) : AV := if k = 0 then .raw (.slice none 0 0) else .own J 1 (hdE (fewK c k).1)
theorem outV_0 (c : List (List Int × Int)) (J : Nat) : outV c 0 J = .raw (.slice none 0 0) := rfl
theorem kept_B {b : Bk} (g : BkB b) {k : Nat} (hk : k < widB b) {l : List Int} (h : l ∈ kept b k) : linB b.words l = true ∧ l.length ≤ 4 := by
  obtain ⟨c, hc, _, rfl⟩ := mem_kept h
  have hkc : k < c.length := by rw [g.le c hc]; exact hk
  rw [List.getD_eq_getElem?_getD, List.getElem?_eq_getElem hkc]
  exact g.ln c hc _ (List.getElem_mem hkc)
theorem kept_len (b : Bk) (k : Nat) : (kept b k).length ≤ b.cps.length := by rw [← keptK_all]; exact keptK_len b k _
theorem costs_len {b : Bk} (hw : 1 ≤ b.words ∧ b.words ≤ 3) (k : Nat) : (costs b k).length ≤ 405 ∧ 0 < (costs b k).length := by
  unfold costs
  rw [List.length_map]
  refine ⟨lns_len (by omega), ?_⟩
  exact List.length_pos_iff.2 (List.ne_nil_of_mem (show ([] : List Int) ∈ lns b.words.toNat from mem_lnsK.2 ⟨by decide, by simp⟩))
theorem lnsx_get {n : Nat} {i : Nat} {x : AV} (h : ((lns n).map ints)[i]? = some x) : ∃ hi : i < (lns n).length, x = ints (lns n)[i] := by
  rw [List.getElem?_map] at h
  cases hy : (lns n)[i]? with
  | none => rw [hy] at h; cases h
  | some y =>
    rw [hy] at h
    have hk := lt_of_get? hy
    rw [List.getElem?_eq_getElem hk] at hy
    exact ⟨hk, by rw [Option.some.inj hy]; exact (Option.some.inj h).symm⟩
theorem costs_at {b : Bk} {k i : Nat} (h : i < (costs b k).length) (hi : i < (lns b.words.toNat).length) : (costs b k)[i] = ((lns b.words.toNat)[i], ((cost (kept b k) (lns b.words.toNat)[i] : Nat) : Int)) := by
  exact Option.some.inj ((List.getElem?_eq_getElem h).symm.trans (by unfold costs; rw [List.getElem?_map, List.getElem?_eq_getElem hi]; rfl))
theorem kept_pure {b : Bk} (g : BkB b) {k : Nat} (hk : k < widB b) : APure Tryz.prog 188 [.agg (pgC b k)] (hds (kept b k)) := by
  refine ap Tryz.func188 (fun e0 he0 => ?_) (hr := by simp [AV.pureB])
  refine aw_seq ?_
  have hnc := g.nc
  refine vz 8 ?_
  refine sq_nil ?_
  refine aw_block ?_
  refine aw_sub (sub_token 3 1 jz) ?_
  refine nz ?_
  refine aw_loopk (ι := { n : Nat // n ≤ b.cps.length }) [1, 8, 9] (fun g => [(10, I (g.1 : Nat)), (3, .own 1 1 (hdE (keptK b k g.1)))]) (fun H g => [.cells (pgC b k), .tok (hdE (keptK b k g.1)).length]) (fun g => b.cps.length - g.1) (⟨0, Nat.zero_le _⟩) ⟨jz, jz, jz, jz, jz, trivial⟩ rfl ?_
  rintro ⟨n, hn⟩
  refine nz ?_
  have hkl := keptK_len b k n
  refine wz 1 ?_
  refine iz (fun c_11 c_11' => ?_) (fun c_11 c_11' => ?_)
  ·have hnL : n < b.cps.length := by omega
   have hkc : k < b.cps[n].length := by rw [g.le _ (List.getElem_mem hnL)]; exact hk
   refine wz 6 ?_
   refine sq_ev rfl (ev_index_map (k := k) (xs := b.cps[n]) (f := linC) sl91.h jz jz rfl hkc) ?_
   refine wz 3 ?_
   refine iz (fun c_20 c_20' => ?_) (fun c_20 c_20' => ?_)
   ·have hlo : b.cps[n][k].lost = false := by simpa using c_20
    have eS : hdE (keptK b k (n + 1)) = hdE (keptK b k n) ++ [[ints b.cps[n][k].ws]] := by rw [keptK_succ hnL hkc, if_neg (by rw [hlo]; simp)]; exact List.map_append
    refine wz 4 ?_
    refine sq_ev rfl (ev_index_map (k := k) (xs := b.cps[n]) (f := linC) sl91.h jz jz rfl hkc) ?_
    refine wz 2 ?_
    refine sq_ev rfl (ev_buildSlice (es := [[_]]) sf35.h rfl rfl rfl rfl) ?_
    first | refine sq_append rfl sf35.h Tryz.underlying35 rfl rfl jz (Nat.succ_pos _) (by simp; omega) (by simp; omega) ?_ | refine sq_append rfl sf35.h Tryz.underlying35 rfl rfl (less_slx _ _) (Nat.succ_pos _) (by simp; omega) (by simp; omega) ?_
    refine wz 3 ?_
    exact ⟨⟨n + 1, by omega⟩, by simp only; omega, sb 2 ⟨jz, Less.eq (b := .own 1 1 (hdE (keptK b k (n + 1)))) (by rw [eS] <;> rfl), jz, jz, jz, trivial⟩ (hH := (congrArg (fun m => [AObj.cells (pgC b k), .tok m]) (congrArg List.length eS.symm)))⟩
   have hlo : b.cps[n][k].lost = true := by simpa using c_20
   have eS : hdE (keptK b k (n + 1)) = hdE (keptK b k n) := by rw [keptK_succ hnL hkc, if_pos hlo, List.append_nil]
   refine wz 2 ?_
   exact ⟨⟨n + 1, by omega⟩, by simp only; omega, sb 2 ⟨jz, Less.eq (b := .own 1 1 (hdE (keptK b k (n + 1)))) (by rw [eS] <;> rfl), jz, jz, jz, trivial⟩ (hH := (congrArg (fun m => [AObj.cells (pgC b k), .tok m]) (congrArg List.length eS.symm)))⟩
  obtain rfl : n = b.cps.length := by omega
  refine wz 2 ?_
  exact retQ_pure (v := .own _ _ _) rfl rfl ((less_own _ _ _).trans (Less.eq (by rw [keptK_all])))
theorem sum_pure (l : List Nat) (hl : l.length ≤ 1000) (hx : ∀ x ∈ l, x ≤ 1000) : APure Tryz.prog 189 [ints (natI l)] (I (l.sum : Nat)) := by
  refine ap Tryz.func189 (fun e0 he0 => ?_)
  refine aw_seq ?_
  have hnl : (natI l).length = l.length := List.length_map _
  refine wz 5 ?_
  refine aw_loopk (ι := { k : Nat // k ≤ l.length }) [6, 7] (fun g => [(8, I (g.1 : Nat)), (3, I ((l.take g.1).sum : Nat))]) (fun H g => H) (fun g => l.length - g.1) (⟨0, Nat.zero_le _⟩) ⟨jz, jz, jz, jz, trivial⟩ rfl ?_
  rintro ⟨k, hk⟩
  refine nz ?_
  have hsl := sum_le (c := 1000) k hk hx
  have hkm : k * 1000 ≤ 1000000 := Nat.mul_le_mul_right 1000 (show k ≤ 1000 by omega)
  refine wz 1 ?_
  refine iz (fun c_9 c_9' => ?_) (fun c_9 c_9' => ?_)
  ·have hkL : k < l.length := by omega
   have hxk := hx _ (List.getElem_mem hkL)
   refine wz 0 ?_
   refine sq_ev rfl (ev_less (ev_index_map (k := k) (xs := natI l) (f := fun x => [I x]) sl31.h jz jz rfl (by rw [hnl]; omega)) jz) ?_
   refine sq_ev rfl (ev_less (ev_load_i jz ty3.h rfl) (Less.eq (b := I (l[k] : Nat)) (congrArg I (by simp)))) ?_
   refine wz 7 ?_
   exact ⟨⟨k + 1, by omega⟩, by simp only; omega, Sub.slots ⟨jz, (by exact less_int (by rw [sum_take hkL]; simp)), jz, jz, trivial⟩⟩
  obtain rfl : k = l.length := by omega
  refine wz 2 ?_
  exact rz rfl (Less.eq (by rw [List.take_length]))
theorem changes_pure {b : Bk} (g : BkB b) {k : Nat} (hk : k < widB b) {l : List Int} (hl : l.length ≤ 4) : APure Tryz.prog 163 [.agg (pgC b k), ints l] (I (cost (kept b k) l : Nat)) := by
  refine ap Tryz.func163 (fun e0 he0 => ?_)
  refine aw_seq ?_
  have hnc := g.nc
  have hkp := kept_len b k
  refine wz 4 ?_
  refine kz az (kept_pure g hk) ?_
  refine vz 2 ?_
  refine sq_nil ?_
  refine aw_block ?_
  refine aw_sub (sub_token 5 1 jz) ?_
  refine nz ?_
  refine aw_loopk (ι := { n : Nat // n ≤ (kept b k).length }) [1, 9, 10] (fun g => [(11, I (g.1 : Nat)), (5, .own 1 1 (((natI (((kept b k).take g.1).map (dist l))).map fun x => [I x])))]) (fun H g => [.cells (pgC b k), .tok (((natI (((kept b k).take g.1).map (dist l))).map fun x => [I x])).length]) (fun g => (kept b k).length - g.1) (⟨0, Nat.zero_le _⟩) ⟨jz, jz, jz, jz, jz, trivial⟩ rfl ?_
  rintro ⟨n, hn⟩
  refine nz ?_
  refine wz 1 ?_
  refine iz (fun c_12 c_12' => ?_) (fun c_12 c_12' => ?_)
  ·have hnL : n < (kept b k).length := by omega
   have eS : ((natI (((kept b k).take (n + 1)).map (dist l))).map fun x => [I x]) = ((natI (((kept b k).take n).map (dist l))).map fun x => [I x]) ++ [[I (dist l (kept b k)[n] : Nat)]] := by rw [List.take_succ_eq_append_getElem hnL, List.map_append]; unfold natI; rw [List.map_append, List.map_append]; rfl
   refine wz 6 ?_
   refine kz az (btw_pure l (kept b k)[n] hl (kept_B g hk (List.getElem_mem hnL)).2) ?_
   refine sq_ev rfl (ev_buildSlice (es := [[_]]) sf31.h rfl rfl rfl rfl) ?_
   first | refine sq_append rfl sf31.h Tryz.underlying31 rfl rfl jz (Nat.succ_pos _) (by simp; omega) (by simp; omega) ?_ | refine sq_append rfl sf31.h Tryz.underlying31 rfl rfl (less_slx _ _) (Nat.succ_pos _) (by simp; omega) (by simp; omega) ?_
   refine wz 3 ?_
   exact ⟨⟨n + 1, by omega⟩, by simp only; omega, sb 2 ⟨jz, Less.eq (b := .own 1 1 (((natI (((kept b k).take (n + 1)).map (dist l))).map fun x => [I x]))) (by rw [eS] <;> rfl), jz, jz, jz, trivial⟩ (hH := (congrArg (fun m => [AObj.cells (pgC b k), .tok m]) (congrArg List.length eS.symm)))⟩
  obtain rfl : n = (kept b k).length := by omega
  refine wz 1 ?_
  refine sq_ev rfl (ev_call en189.h jz (sum_pure ((kept b k).map (dist l)) (by rw [List.length_map]; omega) (fun x hx => by obtain ⟨y, hy, rfl⟩ := List.mem_map.1 hx; have h1 := dist_le l y; have h2 := (kept_B g hk hy).2; omega)) ⟨(less_own _ _ _).trans (Less.eq (by rw [List.take_length])), trivial⟩) ?_
  refine wz 1 ?_
  exact rz rfl jz
theorem lines_pure (b : Bk) : APure Tryz.prog 162 [bkA b] (.fn (.func 187) [] [.iptr (bkC b)]) := by
  refine ap Tryz.func162 (fun e0 he0 => ?_)
  refine vz 2 ?_
  refine sq_nil ?_
  refine aw_seq ?_
  refine aw_sub (sub_iptrK [2] 1 (j := 0) (l := bkC b) rfl rfl) ?_
  refine wz 2 ?_
  exact retQ_pure (v := .fn _ _ _) rfl rfl jz
theorem all_pure {b : Bk} (g : BkB b) {j : Nat} (hj : j < widB b) : APure Tryz.prog 121 [.agg (pgC b j)] (cnts (costs b j)) := by
  refine apure_of_marks (rs := [.tmp 2]) Tryz.func121 rfl rfl (Nat.le_of_ble_eq_true rfl) (by simp [AV.pureL, AV.pureB, AV.pureE, pureE_map]) (by simp [AV.pureB]) fun e0 he0 => ?_
  refine wz 5 ?_
  refine kz az (lines_pure b) ?_
  refine sq_nil ?_
  refine aw_block ?_
  refine aw_sub (sub_token_box 1 2 rfl) ?_
  refine nz ?_
  refine aw_rangeFuncP (xs := (lns b.words.toNat).map ints) (fun k => [.cells (pgC b j), .cells [.own 2 2 ((((costs b j).take k).map cntC))], .tok ((((costs b j).take k).map cntC)).length]) (((lns b.words.toNat).map ints).length) (none) (Nat.le_refl _) (fun _ => rfl) (fun h => absurd rfl h) rfl (enters_outer rfl) dd_in jz en187.h (lines_iter g.wo) (rfl) (fun _ => rfl) (fun k hk => by simp [objsIn, AObj.inB, AV.inB, AV.inL, inE_cnts, -List.map_take]) (fun x hx => ints_pureL hx) rfl rfl ?_ ?_
  ·intro q i x e2 hi hx he2 hlp hce
   obtain ⟨hiL, rfl⟩ := lnsx_get hx
   have hcl : i < (costs b j).length := by unfold costs; rw [List.length_map]; exact hiL
   have hci := costs_len g.wo j
   have eS : (((costs b j).take (i + 1)).map cntC) = (((costs b j).take i).map cntC) ++ [cntC ((lns b.words.toNat)[i], (cost (kept b j) (lns b.words.toNat)[i] : Nat))] := by rw [List.take_succ_eq_append_getElem hcl, List.map_append, costs_at hcl hiL]; rfl
   refine nz ?_
   refine wz 2 ?_
   refine kz az (changes_pure g hj (lns_mem_len (List.getElem_mem hiL))) ?_
   refine wz 5 ?_
   refine sq_ev rfl (ev_buildSlice (es := [[_, _]]) sf207.h rfl rfl rfl rfl) ?_
   first | refine sq_append rfl sf207.h Tryz.underlying207 rfl rfl jz (Nat.succ_pos _) (by simp; omega) (by simp; omega) ?_ | refine sq_append rfl sf207.h Tryz.underlying207 rfl rfl (less_slx _ _) (Nat.succ_pos _) (by simp; omega) (by simp; omega) ?_
   refine wz 1 ?_
   exact ⟨⟨[], (congrArg (fun L => [AObj.cells (pgC b j), AObj.cells [.own 2 2 L], .tok L.length]) eS.symm).trans (List.append_nil _).symm⟩, rfl, by split <;> rfl⟩
  ·rintro _ rfl
   have hfull : ((lns b.words.toNat).map ints).length = (costs b j).length := by unfold costs; rw [List.length_map, List.length_map]
   rw [hfull]
   rw [List.take_length]
   refine nz ?_
   refine wz 2 ?_
   exact retQM_pure (v := .own _ _ _) rfl rfl (less_own _ _ _)
end Go.Proofs.YtnbjaepkbabkhaaGreat
namespace Go.Proofs.YtnbjaepkbabkhaaGreat
open Go Go.Ab Br Hd Vr
open Ni hiding fw bw lo hi can
instance bi154 : BdI Tryz.prog 154 [.raw (.int .i64 0), .raw (.slice none 0 0), .raw (.int .i64 0)] true [(0, 2), (2, 1)] 0 := ⟨by kernel_rfl⟩
instance fo241_0 : FoF Tryz.prog 241 0 0 31 := ⟨by kernel_rfl⟩
instance fo241_1 : FoF Tryz.prog 241 1 1 3 := ⟨by kernel_rfl⟩
theorem few_new {c : List (List Int × Int)} {n : Nat} (h : n < c.length) (q : (fewK c n).1.isEmpty = true ∨ c[n].2 < (fewK c n).2) : fewK c (n + 1) = ([c[n].1], c[n].2) := by rw [fewK_succ h]; unfold fewS; rw [if_pos q]
theorem few_eq {c : List (List Int × Int)} {n : Nat} (h : n < c.length) (q : ¬ ((fewK c n).1.isEmpty = true ∨ c[n].2 < (fewK c n).2)) (e : c[n].2 = (fewK c n).2) : fewK c (n + 1) = ((fewK c n).1 ++ [c[n].1], (fewK c n).2) := by rw [fewK_succ h]; unfold fewS; rw [if_neg q, if_pos e]
theorem few_no {c : List (List Int × Int)} {n : Nat} (h : n < c.length) (q : ¬ ((fewK c n).1.isEmpty = true ∨ c[n].2 < (fewK c n).2)) (e : ¬ c[n].2 = (fewK c n).2) : fewK c (n + 1) = fewK c n := by rw [fewK_succ h]; unfold fewS; rw [if_neg q, if_neg e]
theorem outV_p (c : List (List Int × Int)) {k : Nat} (J : Nat) (h : 0 < k) : outV c k J = .own J 1 (hdE (fewK c k).1) := by unfold outV; rw [if_neg (by omega)]
theorem less_outV {c : List (List Int × Int)} {n J : Nat} {es : List (List AV)} (h : hdE (fewK c n).1 = es) (hp : 0 < n) : Less (.own J 1 es) (outV c n J) := Less.eq (by rw [outV_p _ _ hp, h])
theorem few_pure (c : List (List Int × Int)) (hpos : 0 < c.length) (hc : c.length ≤ 1000000) : APure Tryz.prog 120 [cnts c, .raw (.slice none 0 0)] (.tup [hds (fewV c).1, I (fewV c).2]) := by
  refine ap Tryz.func120 (fun e0 he0 => ?_)
  refine wz 7 ?_
  refine aw_loopk (ι := { x : Nat × Nat × List AObj // x.1 ≤ c.length ∧ (0 < x.1 → x.2.2[x.2.1]? = some (.tok (hdE (fewK c x.1).1).length)) }) [1, 13, 14] (fun g => [(15, I (g.1.1 : Nat)), (6, outV c g.1.1 g.1.2.1), (7, I (fewK c g.1.1).2)]) (fun H g => g.1.2.2) (fun g => c.length - g.1.1) (⟨(0, 0, []), Nat.zero_le _, fun h => absurd h (Nat.lt_irrefl _)⟩) ⟨jz, jz, jz, jz, jz, jz, trivial⟩ rfl ?_
  rintro ⟨⟨n, J, G⟩, hn, hJ⟩
  refine nz ?_
  dsimp only at hn hJ
  have hfl := fewK_len (l := c) hn
  rcases n with _ | n
  ·refine aw_seq ?_
   rw [outV_0]
   have eF := few_new (c := c) (n := 0) (by omega) (.inl rfl)
   refine wz 0 ?_
   refine sq_ev rfl (ev_less (ev_lss jz jz) (Less.eq (b := B true) (congrArg B (decide_eq_true (by omega))))) ?_
   refine vz 1 ?_
   refine aw_skip ?_
   refine aw_seq ?_
   refine aw_block ?_
   refine aw_seq ?_
   refine aw_norm (H' := G ++ []) (List.append_nil _).symm ?_
   refine wz 2 ?_
   refine sq_allocP (H0 := G) (X := []) rfl z241.h ?_
   refine sq_storeE (A := G) (X := []) rfl rfl jz jz rfl ty241.h rfl rfl ?_
   refine sq_frz (A := G) (X := []) [0, 1, 6, 7, 13, 14, 15] 9 rfl ?_
   refine wz 6 ?_
   refine aw_loopk (ι := Unit) [1, 6, 7, 9, 13, 14, 15, 21, 22] (fun u => [(10, _), (23, I 0)]) (fun H u => H) (fun u => 0) (()) ⟨jz, jz, jz, jz, jz, jz, jz, jz, jz, jz, jz, trivial⟩ rfl ?_
   rintro ⟨⟩
   refine nz ?_
   refine wz 0 ?_
   refine sq_ev rfl (ev_less (ev_lss jz jz) (Less.eq (b := B false) rfl)) ?_
   refine wz 2 ?_
   refine sq_ev rfl (ev_slnil sl35.h jz jz) ?_
   refine wz 11 ?_
   refine sq_ev rfl (ev_less (ev_eql jz jz) (Less.eq (b := B true) (by simp))) ?_
   refine wz 4 ?_
   refine sq_ev rfl (ev_buildSlice (es := [[_]]) sf35.h rfl rfl rfl rfl) ?_
   refine sq_append_new rfl sf35.h Tryz.underlying35 (less_nilx 1) (less_slx 1 [[ints c[0].1]]) (by simp) (by simp) ?_
   refine wz 3 ?_
   exact ⟨⟨(0 + 1, (G ++ ([] ++ [AObj.dead])).length, (G ++ ([] ++ [AObj.dead])) ++ [.tok ([] ++ [[ints c[0].1]]).length]), by simp only; omega, fun _ => by rw [look_end, eF]; simp⟩, by simp only; omega, Sub.at ⟨jz, (by exact less_outV (n := 0 + 1) (by rw [eF] <;> simp) (Nat.succ_pos _)), (by exact less_int (by show _ = (fewK c (0 + 1)).2; rw [eF])), jz, jz, jz, trivial⟩ (rfl)⟩
  ·refine aw_seq ?_
   rw [outV_p c J (Nat.succ_pos n)]
   have hne := fewK_ne (l := c) (k := n) (by omega)
   refine wz 1 ?_
   refine iz (fun c_16 c_16' => ?_) (fun c_16 c_16' => ?_)
   ·have hnL : n + 1 < c.length := by omega
    refine aw_skip ?_
    refine aw_seq ?_
    refine aw_block ?_
    refine aw_seq ?_
    refine aw_norm (H' := G ++ []) (List.append_nil _).symm ?_
    refine wz 2 ?_
    refine sq_allocP (H0 := G) (X := []) rfl z241.h ?_
    refine sq_storeE (A := G) (X := []) rfl rfl jz jz rfl ty241.h rfl rfl ?_
    refine sq_frz (A := G) (X := []) [0, 1, 6, 7, 13, 14, 15] 9 rfl ?_
    refine wz 6 ?_
    refine aw_loopk (ι := Unit) [1, 6, 7, 9, 13, 14, 15, 21, 22] (fun u => [(10, _), (23, I 0)]) (fun H u => H) (fun u => 0) (()) ⟨jz, jz, jz, jz, jz, jz, jz, jz, jz, jz, jz, trivial⟩ rfl ?_
    rintro ⟨⟩
    refine nz ?_
    refine wz 0 ?_
    refine sq_ev rfl (ev_less (ev_lss jz jz) (Less.eq (b := B false) rfl)) ?_
    refine wz 2 ?_
    refine sq_ev rfl (ev_sl_nil_ne sl35.h (less_own _ _ _) (by rw [List.length_map]; exact List.length_pos_iff.2 hne) jz) ?_
    refine wz 5 ?_
    refine iz (fun c_40 c_40' => ?_) (fun c_40 c_40' => ?_)
    ·have hq : (fewK c (n + 1)).1.isEmpty = true ∨ c[n + 1].2 < (fewK c (n + 1)).2 := .inr (by simpa using c_40)
     have eF := few_new hnL hq
     refine wz 6 ?_
     refine iz (fun c_44 c_44' => ?_) (fun c_44 c_44' => ?_)
     ·try have eF := few_eq hnL hq (by simpa using c_44)
      refine wz 3 ?_
      refine sq_ev rfl (ev_buildSlice (es := [[_]]) sf35.h rfl rfl rfl rfl) ?_
      refine sq_append_new rfl sf35.h Tryz.underlying35 (less_nilx 1) (less_slx 1 [[ints c[(n + 1)].1]]) (by simp) (by simp) ?_
      refine wz 3 ?_
      exact ⟨⟨((n + 1) + 1, (G ++ ([] ++ [AObj.dead])).length, (G ++ ([] ++ [AObj.dead])) ++ [.tok ([] ++ [[ints c[(n + 1)].1]]).length]), by simp only; omega, fun _ => by rw [look_end, eF]; simp⟩, by simp only; omega, Sub.at ⟨jz, (by exact less_outV (n := (n + 1) + 1) (by rw [eF] <;> simp) (Nat.succ_pos _)), (by exact less_int (by show _ = (fewK c ((n + 1) + 1)).2; rw [eF])), jz, jz, jz, trivial⟩ (rfl)⟩
     try have eF := few_no hnL hq (by simpa using c_44)
     exact absurd trivial c_44'
    have hq : ¬ ((fewK c (n + 1)).1.isEmpty = true ∨ c[n + 1].2 < (fewK c (n + 1)).2) := by rw [not_or]; exact ⟨by simpa using hne, by simpa using c_40⟩
    refine wz 3 ?_
    refine iz (fun c_44 c_44' => ?_) (fun c_44 c_44' => ?_)
    ·try have eF := few_eq hnL hq (by simpa using c_44)
     refine wz 3 ?_
     refine sq_ev rfl (ev_buildSlice (es := [[_]]) sf35.h rfl rfl rfl rfl) ?_
     refine sq_append' (j := J) rfl sf35.h Tryz.underlying35 rfl (lookL (H0 := G) (hJ (by omega))) (less_slx 1 [[ints c[(n + 1)].1]]) (by simp; omega) (by simp; omega) ?_
     refine wz 3 ?_
     exact ⟨⟨((n + 1) + 1, J, (G ++ ([] ++ [AObj.dead])).set J (.tok (hdE (fewK c (n + 1)).1 ++ [[ints c[(n + 1)].1]]).length)), by simp only; omega, fun _ => by rw [List.getElem?_set_self (lt_of_get? (lookL (H0 := G) (hJ (by omega)))), eF]; exact congrArg (fun L => some (AObj.tok (List.length L))) (show hdE (fewK c (n + 1)).1 ++ [[ints c[n + 1].1]] = hdE ((fewK c (n + 1)).1 ++ [c[n + 1].1]) from (List.map_append (f := fun h => [ints h]) (l₁ := (fewK c (n + 1)).1) (l₂ := [c[n + 1].1])).symm)⟩, by simp only; omega, Sub.at ⟨jz, (by exact less_outV (n := (n + 1) + 1) (by rw [eF] <;> simp) (Nat.succ_pos _)), (by exact less_int (by show _ = (fewK c ((n + 1) + 1)).2; rw [eF])), jz, jz, jz, trivial⟩ (rfl)⟩
    try have eF := few_no hnL hq (by simpa using c_44)
    refine wz 2 ?_
    exact ⟨⟨((n + 1) + 1, J, (G ++ ([] ++ [AObj.dead]))), by simp only; omega, fun _ => by rw [lookL (H0 := G) (hJ (by omega)), eF]⟩, by simp only; omega, Sub.at ⟨jz, (by exact less_outV (n := (n + 1) + 1) (by rw [eF] <;> simp) (Nat.succ_pos _)), (by exact less_int (by show _ = (fewK c ((n + 1) + 1)).2; rw [eF])), jz, jz, jz, trivial⟩ (rfl)⟩
   have hN : n + 1 = c.length := by omega
   refine wz 4 ?_
   exact retQ_pure (v := .tup [.own _ _ _, .raw _]) rfl rfl (less_tup ⟨(less_own _ _ _).trans (Less.eq (congrArg (fun q => AV.sl 1 (hdE (fewK c q).1)) hN)), Less.eq (congrArg (fun q => I (fewK c q).2) hN), trivial⟩)
theorem least_pure {b : Bk} (g : BkB b) {k : Nat} (hk : k < widB b) : APure Tryz.prog 70 [.agg (pgC b k)] (.tup [hds (leastP b k).1, I (leastP b k).2]) := by
  refine ap Tryz.func70 (fun e0 he0 => ?_)
  refine wz 4 ?_
  refine kz az (all_pure g hk) ?_
  refine kz az (few_pure (costs b k) (costs_len g.wo k).2 (by have := (costs_len g.wo k).1; omega)) ?_
  refine wz 4 ?_
  exact retQ_pure (v := .tup [.sl _ _, .raw _]) rfl rfl (less_tup ⟨jz, jz, trivial⟩)
theorem line_yes {b : Bk} (g : BkB b) {k : Nat} (hk : k < widB b) : APure Tryz.prog 69 [bkA b, I (k : Nat)] (B true) := by
  have q := hasLine_pure b k (by have := g.nc; omega) (by have := g.wi; omega)
  rwa [show inn (k : Int) 0 (widB b - 1) = true by simp [inn]; omega] at q
theorem xleast_pure {b : Bk} (g : BkB b) {k : Nat} (hk : k < widB b) : APure Tryz.prog 30 [bkA b, I (k : Nat)] (.tup [hds (leastP b k).1, I (leastP b k).2, I 0]) := by
  refine ap Tryz.func30 (fun e0 he0 => ?_)
  refine wz 5 ?_
  refine kz az (book_ok g) ?_
  refine wz 4 ?_
  refine ky az (line_yes g hk) ?_
  refine wz 6 ?_
  refine kz az (least_pure g hk) ?_
  refine wz 10 ?_
  exact retQ_pure (v := .tup [.sl _ _, .raw _, .raw _]) rfl rfl (less_tup ⟨jz, jz, jz, trivial⟩)
end Go.Proofs.YtnbjaepkbabkhaaGreat
namespace Go.Proofs.YtnbjaepkbabkhaaGreat
open Go Go.Ab Br Hd Vr
open Ni hiding fw bw lo hi can
instance en124 : EnT Tryz.prog 124 := ⟨Ent.of Tryz.func124 (by kernel_rfl) rfl⟩
instance en31 : EnT Tryz.prog 31 := ⟨Ent.of Tryz.func31 (by kernel_rfl) rfl⟩
instance en72 : EnT Tryz.prog 72 := ⟨Ent.of Tryz.func72 (by kernel_rfl) rfl⟩
instance en73 : EnT Tryz.prog 73 := ⟨Ent.of Tryz.func73 (by kernel_rfl) rfl⟩
instance en74 : EnT Tryz.prog 74 := ⟨Ent.of Tryz.func74 (by kernel_rfl) rfl⟩
theorem hld_end : ∀ l : List Int, hld [] l = decide (l = [])
  | [] => rfl
  | _ :: _ => rfl
theorem hld_all (line : List Int) {l : List Int} (h : l = []) : hld line l = true := by subst h; exact hld_nil line
theorem hld_step {line l : List Int} {k a : Nat} (hk : k < line.length) (ha : a < l.length) : hld (line.drop k) (l.drop a) = if l[a] = line[k] then hld (line.drop (k + 1)) (l.drop (a + 1)) else hld (line.drop (k + 1)) (l.drop a) := by
  rw [List.drop_eq_getElem_cons hk, List.drop_eq_getElem_cons ha, hld]
theorem ints_cl {L : List (List Int)} {x : AV} (n : Nat) (h : x ∈ L.map ints) : x.cells = some [x] ∧ [x].length = 1 ∧ AV.inL n [x] = true := by
  obtain ⟨l, _, rfl⟩ := List.mem_map.1 h; exact ⟨rfl, rfl, by simp [AV.inL, AV.inB]⟩
theorem find_stop {α : Type} (f : α → Bool) : ∀ L : List α, ∃ (z : Bool) (m : Nat), m ≤ L.length ∧ (z = false → m = L.length ∧ L.find? f = none) ∧ (z = true → 0 < m ∧ ∃ x, L[m - 1]? = some x ∧ f x = true ∧ L.find? f = some x) ∧ ∀ i, (hi : i < L.length) → (z = true → i + 1 < m) → f L[i] = false
  | [] => ⟨false, 0, Nat.le_refl _, fun _ => ⟨rfl, rfl⟩, fun h => (by cases h), fun i hi => absurd hi (Nat.not_lt_zero _)⟩
  | x :: L => by
    cases hx : f x with
    | true => exact ⟨true, 1, by simp, fun h => (by cases h), fun _ => ⟨Nat.one_pos, x, rfl, hx, by rw [List.find?_cons, hx]⟩, fun i _ h => by have := h rfl; omega⟩
    | false =>
      obtain ⟨z, m, h1, h2, h3, h4⟩ := find_stop f L
      refine ⟨z, m + 1, by simp; omega, fun h => ⟨by rw [(h2 h).1]; rfl, by rw [List.find?_cons, hx]; exact (h2 h).2⟩, fun h => ?_, fun i hi h => ?_⟩
      · obtain ⟨q1, y, q2, q3, q4⟩ := h3 h
        refine ⟨Nat.succ_pos _, y, ?_, q3, by rw [List.find?_cons, hx]; exact q4⟩
        rw [show m + 1 - 1 = (m - 1) + 1 by omega]; exact q2
      · cases i with
        | zero => exact hx
        | succ i => exact h4 i (by simpa using hi) fun q => by have := h q; omega
theorem jx_no {p : Bool} {j : Nat} {q : Prop} [Decidable q] (h : (p && decide q) = false) : jumpEx (if q then (if p = true then some (.exit j) else none) else none) .normal := by
  by_cases hq : q
  · rw [if_pos hq]
    have hp : p = false := by simpa [hq] using h
    subst hp; exact rfl
  · rw [if_neg hq]; exact rfl
theorem jx_yes {p : Bool} {j : Nat} {q : Prop} [Decidable q] (h : (p && decide q) = true) : jumpEx (if q then (if p = true then some (.exit j) else none) else none) (.exit j) := by
  simp only [Bool.and_eq_true, decide_eq_true_eq] at h
  rw [if_pos h.2, if_pos h.1]; exact rfl
theorem jx_ok (p : Bool) (j : Nat) : jumpOK (if p = true then some (.exit j) else none) = true := by cases p <;> rfl
theorem jx_ex {p : Bool} {j : Nat} (h : p = true) {ax : AExit} (k : jumpEx (if p = true then some (.exit j) else none) ax) : ax = .exit j := by subst h; exact k
theorem jx_nor {p : Bool} {j : Nat} (h : p = false) {ax : AExit} (k : jumpEx (if p = true then some (.exit j) else none) ax) : ax = .normal := by subst h; exact k
abbrev allH (L : List (List Int)) (l : List Int) : Bool := L.all fun m => hld m l
theorem any_hld (L : List (List Int)) (l : List Int) : (L.any fun m => !hld m l) = !allH L l := by
  induction L with
  | nil => rfl
  | cons a L ih => simp only [List.any_cons, List.all_cons, ih, Bool.not_and]
def oV (z : Bool) (m : Nat) (y : List Int) (k : Nat) : AV := if z = true ∧ k = m then ints y else .raw (.slice none 0 0)
theorem holds_pure (line l : List Int) (h1 : line.length ≤ 1000000) (h2 : l.length ≤ 1000000) : APure Tryz.prog 74 [ints line, ints l] (B (hld line l)) := by
  refine ap Tryz.func74 (fun e0 he0 => ?_)
  refine wz 5 ?_
  refine aw_loopk (ι := { x : Nat × Nat // x.1 ≤ line.length ∧ x.2 ≤ l.length ∧ hld (line.drop x.1) (l.drop x.2) = hld line l }) [1, 8, 9] (fun g => [(10, I (g.1.1 : Nat)), (5, I (g.1.2 : Nat))]) (fun H g => H) (fun g => line.length - g.1.1) (⟨(0, 0), Nat.zero_le _, Nat.zero_le _, rfl⟩) ⟨jz, jz, jz, jz, jz, trivial⟩ rfl ?_
  rintro ⟨⟨k, a⟩, hk, ha, hh⟩
  refine nz ?_
  dsimp only at hk ha hh
  refine wz 1 ?_
  refine iz (fun c_11 c_11' => ?_) (fun c_11 c_11' => ?_)
  ·have hkL : k < line.length := by omega
   refine wz 8 ?_
   refine sz 18 (fun g5_4 g5_4' => ?_) (fun g5_4 g5_4' => ?_)
   ·have haL : a < l.length := by omega
    have hsp := hld_step hkL haL
    refine wz 7 ?_
    refine iz (fun c_25 c_25' => ?_) (fun c_25 c_25' => ?_)
    ·have hst : hld (line.drop (k + 1)) (l.drop (a + 1)) = hld line l := by rw [← hh, hsp, if_pos (by simpa using c_25)]
     refine wz 5 ?_
     exact ⟨⟨(k + 1, a + 1), by simp only; omega, by simp only; omega, hst⟩, by simp only; omega, Sub.slots ⟨jz, jz, jz, jz, jz, trivial⟩⟩
    have hst : hld (line.drop (k + 1)) (l.drop a) = hld line l := by rw [← hh, hsp, if_neg (by simpa using c_25)]
    refine wz 2 ?_
    exact ⟨⟨(k + 1, a), by simp only; omega, by simp only; omega, hst⟩, by simp only; omega, Sub.slots ⟨jz, jz, jz, jz, jz, trivial⟩⟩
   have hal : l.drop a = [] := List.drop_eq_nil_of_le (by omega)
   have hst : hld (line.drop (k + 1)) (l.drop a) = hld line l := by rw [← hh, hld_all _ hal, hld_all _ hal]
   refine wz 10 ?_
   exact ⟨⟨(k + 1, a), by simp only; omega, by simp only; omega, hst⟩, by simp only; omega, Sub.slots ⟨jz, jz, jz, jz, jz, trivial⟩⟩
  obtain rfl : k = line.length := by omega
  refine wz 5 ?_
  exact rz rfl (Less.eq (congrArg B (by rw [← hh, List.drop_length, hld_end, decide_eq_decide, List.drop_eq_nil_iff]; omega)))
theorem com1_pure (m l : List Int) (h1 : m.length ≤ 1000000) (h2 : l.length ≤ 1000000) : APure Tryz.prog 73 [ints m, .iptr [ints l]] (B (!hld m l)) := by
  refine ap Tryz.func73 (fun e0 he0 => ?_)
  refine wz 3 ?_
  refine kz az (holds_pure m l h1 h2) ?_
  refine wz 2 ?_
  exact rz rfl jz
theorem hdsF_ix {f : FuncId} {cap : List AV} {q : List Int → Bool} (E : List (List Int)) (hE : E.length ≤ 1000000) (en : Ent Tryz.prog f) (hc : ∀ i, (hi : i < E.length) → APure Tryz.prog f (ints E[i] :: cap) (B (q E[i]))) (hp : AV.pureL cap = true) : APure Tryz.prog 124 [.sl 1 (E.map fun h => [ints h]), .fn (.func f) [] cap] (I (ixQ q E)) := by
  refine ap Tryz.func124 (fun e0 he0 => ?_) (hp := by simp [AV.pureL, AV.pureB, hp])
  refine wz 4 ?_
  refine aw_loopk (ι := { k : Nat // k ≤ E.length ∧ ∀ i, (hi : i < E.length) → i < k → q E[i] = false }) [0, 1, 7] (fun i => [(8, I i.1)]) (fun H i => H) (fun i => E.length - i.1) (⟨0, Nat.zero_le _, by omega⟩) ⟨jz, jz, jz, jz, trivial⟩ rfl ?_
  rintro ⟨k, hk, hok⟩
  refine nz ?_
  refine wz 1 ?_
  refine iz (fun c_9 c_9' => ?_) (fun c_9 c_9' => ?_)
  ·have hkL : k < E.length := by omega
   refine wz 7 ?_
   refine sq_ev rfl (ev_call en jz (hc k hkL) ⟨jz, LessL.rfl' _⟩) ?_
   refine wz 0 ?_
   refine iz (fun c_16 c_16' => ?_) (fun c_16 c_16' => ?_)
   ·refine wz 2 ?_
    exact rz rfl (Less.eq (by rw [ixQ_at hkL (by simpa using c_16') hok]))
   refine wz 2 ?_
   exact ⟨⟨k + 1, by omega, fun i hi h => (by by_cases e : i = k; (subst e; simpa using c_16'); exact hok i hi (by omega))⟩, by simp only; omega, Sub.slots ⟨jz, jz, jz, jz, trivial⟩⟩
  refine wz 1 ?_
  exact rz rfl (Less.eq (by rw [ixQ_no fun i hi => hok i hi (by omega)]))
theorem hdsF_any {f : FuncId} {cap : List AV} {q : List Int → Bool} (E : List (List Int)) (hE : E.length ≤ 1000000) (en : Ent Tryz.prog f) (hc : ∀ i, (hi : i < E.length) → APure Tryz.prog f (ints E[i] :: cap) (B (q E[i]))) (hp : AV.pureL cap = true) : APure Tryz.prog 72 [.sl 1 (E.map fun h => [ints h]), .fn (.func f) [] cap] (B (E.any q)) := by
  refine ap Tryz.func72 (fun e0 he0 => ?_) (hp := by simp [AV.pureL, AV.pureB, hp])
  refine wz 3 ?_
  refine kz az (hdsF_ix E hE en hc hp) ?_
  refine wz 2 ?_
  exact rz rfl (Less.eq (by rw [← ixQ_any]))
theorem common_pure {b : Bk} (g : BkB b) {j : Nat} (hj : j < widB b) (hL : (leastP b j).1.length ≤ 1000000) (hLx : ∀ l ∈ (leastP b j).1, l.length ≤ 1000000) : APure Tryz.prog 31 [bkA b, I (j : Nat)] (.tup [ints (com b.words.toNat (leastP b j).1 4), I 0]) := by
  refine apure_of_marks (rs := [.tmp 4, .tmp 5]) Tryz.func31 rfl rfl (Nat.le_of_ble_eq_true rfl) (by simp [AV.pureL, AV.pureB, AV.pureE, pureE_map]) (by first | rfl | (simp [AV.pureL, AV.pureB, AV.pureE, pureE_map])) fun e0 he0 => ?_
  refine aw_seq ?_
  have hwo := g.wo
  refine wz 4 ?_
  refine kz az (book_ok g) ?_
  refine wz 4 ?_
  refine ky az (line_yes g hj) ?_
  refine wz 6 ?_
  refine kz az (least_pure g hj) ?_
  refine vz 8 ?_
  refine sq_nil ?_
  refine aw_block ?_
  -- NOTE: varying slots are [9, 10]
  refine aw_loopd (ι := { x : Nat × List AObj × List ADef // x.1 ≤ 4 ∧ Mk 3 x.2.1 x.2.2 ∧ objsIn 3 x.2.1 = true ∧ com b.words.toNat (leastP b j).1 x.1 = com b.words.toNat (leastP b j).1 4 }) [2, 6, 8, 35] (fun g => [(9, I (g.1.1 : Nat))]) (fun g => [.cells (bkC b), .cells [hds (leastP b j).1], .cells [.raw (.slice none 0 0)]] ++ g.1.2.1) (fun g => g.1.2.2) (fun g => g.1.1) (⟨(4, [], []), by omega, mk_nil _ _, rfl, rfl⟩) ⟨jz, jz, jz, jz, jz, trivial⟩ rfl rfl ?_
  rintro ⟨⟨n, G, df⟩, hn, hmk, hGi, hcm⟩
  refine nz ?_
  dsimp only at hn hmk hGi hcm
  rcases n with _ | n
  ·refine wz 1 ?_
   refine sq_ev rfl (ev_less (ev_gtr jz jz) (Less.eq (b := B false) rfl)) ?_
   refine vz 4 ?_
   refine sq_nil (aw_ret ?_)
   obtain ⟨G4, hG4⟩ := mk_take hmk (A := [.cells (bkC b), .cells [hds (leastP b j).1], .cells [.raw (.slice none 0 0)]]) rfl
   exact ⟨_, .tup [.raw (.slice none 0 0), .raw _], hG4, rfl, ⟨_, rfl, less_tup ⟨(less_nil 1).trans (Less.eq (by rw [← hcm]; rfl)), jz, trivial⟩⟩⟩
  ·refine wz 1 ?_
   refine sq_ev rfl (ev_less (ev_gtr jz jz) (Less.eq (b := B true) (congrArg B (decide_eq_true (by omega))))) ?_
   refine vz 1 ?_
   refine aw_skip ?_
   refine aw_seq ?_
   refine aw_block ?_
   refine aw_seq ?_
   have hlists := lists_pure b.words.toNat (n + 1)
   rw [show ((b.words.toNat : Nat) : Int) = b.words by omega] at hlists
   have hit := lists_iter (W := b.words.toNat) (long := n + 1) (by omega) (by omega)
   rw [show ((b.words.toNat : Nat) : Int) = b.words by omega] at hit
   refine wz 3 ?_
   refine kz az (hlists) ?_
   refine sq_nil ?_
   refine aw_block ?_
   obtain ⟨z, m, hm, hz0, hz1, hno⟩ := find_stop (allH (leastP b j).1) (wrds b.words.toNat (n + 1))
   obtain ⟨y, hy⟩ : ∃ y, z = true → (wrds b.words.toNat (n + 1))[m - 1]? = some y ∧ allH (leastP b j).1 y = true ∧ (wrds b.words.toNat (n + 1)).find? (allH (leastP b j).1) = some y := by cases z with | false => exact ⟨[], fun h => by cases h⟩ | true => (obtain ⟨_, y, q⟩ := hz1 rfl; exact ⟨y, fun _ => q⟩)
   refine nz ?_
   refine aw_rangeFuncQ [6, 8] (xs := (wrds b.words.toNat (n + 1)).map ints) (cl := fun x => [x]) (fun k => [.cells (bkC b), .cells [hds (leastP b j).1], .cells [oV z m y k]] ++ G) (m) (if z = true then some (.exit 0) else none) (by rw [List.length_map]; exact hm) (fun h => by rw [List.length_map]; exact (hz0 (by cases z with | false => rfl | true => cases h)).1) (fun h => (hz1 (by cases z with | true => rfl | false => exact absurd rfl h)).1) (jx_ok _ _) (enters_outer rfl) dd_in jz en122.h (hit) (by unfold oV; rw [if_neg (fun h => by have := (hz1 h.1).1; omega)]; rfl) (fun _ => rfl) (fun k hk => by unfold oV; split <;> (simp [objsIn, AObj.inB, AV.inB, AV.inL]; exact objsIn_mono (by omega) hGi)) (fun x hx => ints_pureL hx) rfl rfl (by decide) rfl rfl z31.h rfl ty31.h (fun x hx => ints_cl _ hx) (by decide) (by simp [slotsIn, keepS, sget, AV.inB, AV.inL]) ?_ ?_
   ·intro q i x e2 hi hx he2 hlp hce
    obtain ⟨w, hw, rfl⟩ := lns_get hx
    obtain ⟨hiL, hwi⟩ := List.getElem?_eq_some_iff.1 hw
    have hwl : w.length ≤ 1000000 := by have := (mem_wrds.1 (List.mem_of_getElem? hw)).1; omega
    have hyw : z = true → i + 1 = m → y = w := fun h1 h2 => by have h3 := (hy h1).1; rw [show m - 1 = i by omega, hw] at h3; exact (Option.some.inj h3).symm
    refine nz ?_
    refine wz 2 ?_
    refine sq_ev rfl (ev_call en72.h jz (hdsF_any (cap := [.iptr [ints w]]) (q := fun l => !hld l w) (leastP b j).1 hL en73.h (fun i hi => com1_pure _ w (hLx _ (List.getElem_mem hi)) hwl) (by simp [AV.pureL, AV.pureB])) ⟨jz, jz, trivial⟩) ?_
    refine wz 1 ?_
    refine iz (fun c_39 c_39' => ?_) (fun c_39 c_39' => ?_)
    ·have hf : allH (leastP b j).1 w = true := by rw [any_hld] at c_39; simpa using c_39
     have hzm : z = true ∧ i + 1 = m := by by_cases q : z = true ∧ ¬ i + 1 < m; (exact ⟨q.1, by have := q.2; omega⟩); (have h2 := hno i hiL (fun h => by by_cases q2 : i + 1 < m; exact q2; exact absurd ⟨h, q2⟩ q); rw [hwi] at h2; rw [hf] at h2; cases h2)
     have hJ : (z && decide (i + 1 = m)) = true := by rw [hzm.1, hzm.2]; simp
     have hoV : ints w = oV z m y (i + 1) := by unfold oV; rw [if_pos hzm, hyw hzm.1 hzm.2]
     refine vz 2 ?_
     refine sq_nil ?_
     refine aw_exit ?_
     repeat (first | refine xe ?_ | refine bo ?_ rfl)
     exact ⟨⟨[], (congrArg (fun a => [AObj.cells (bkC b), .cells [hds (leastP b j).1], .cells [a]] ++ G) hoV).trans (List.append_nil _).symm⟩, rfl, jx_yes hJ⟩
    have hf : allH (leastP b j).1 w = false := by rw [any_hld] at c_39; simpa using c_39
    have hJ : (z && decide (i + 1 = m)) = false := by cases hz : z with | false => rfl | true => (rw [Bool.true_and, decide_eq_false_iff_not]; intro q; have h2 := (hy hz).2.1; rw [hyw hz q, hf] at h2; cases h2)
    have hoV : oV z m y i = oV z m y (i + 1) := by unfold oV; rw [if_neg (by omega), if_neg (fun h => by simp only [h.1, h.2, Bool.true_and, decide_true] at hJ; cases hJ)]
    refine wz 0 ?_
    exact ⟨⟨[], (congrArg (fun a => [AObj.cells (bkC b), .cells [hds (leastP b j).1], .cells [a]] ++ G) hoV).trans (List.append_nil _).symm⟩, rfl, jx_no hJ⟩
   ·intro ax hax
    rcases Bool.eq_false_or_eq_true z with hz | hz
    ·obtain rfl := jx_ex hz hax
     repeat (first | refine xe ?_ | refine be ?_ | refine bo ?_ rfl)
     refine nz ?_
     refine wz 1 ?_
     refine sq_ev rfl (ev_as (v := oV z m y m) jz) ?_
     refine wz 1 ?_
     obtain ⟨G4, hG4⟩ := mk_take (mk_push hmk) (A := [.cells (bkC b), .cells [hds (leastP b j).1], .cells [oV z m y m]]) rfl
     rw [show 3 + G.length = G.length + 1 + 1 + 1 by omega] at hG4
     exact ⟨_, .tup [oV z m y m, .raw _], hG4, rfl, ⟨_, rfl, less_tup ⟨Less.eq (by unfold oV; rw [if_pos ⟨hz, rfl⟩, ← hcm]; show ints y = ints (((wrds _ (n + 1)).find? (allH _)).getD _); rw [(hy hz).2.2]; rfl), jz, trivial⟩⟩⟩
    ·obtain rfl := jx_nor hz hax
     have hnx : com b.words.toNat (leastP b j).1 n = com b.words.toNat (leastP b j).1 4 := by rw [← hcm]; show _ = ((wrds _ (n + 1)).find? (allH _)).getD _; rw [(hz0 hz).2]; rfl
     subst hz
     refine nz ?_
     refine wz 3 ?_
     exact ⟨⟨(n, G ++ [.raw (.deferred (some []))], .mark (3 + G.length) :: df), by simp only; omega, mk_push hmk, by rw [objsIn_append, hGi]; rfl, hnx⟩, by simp only; omega, Sub.atD ⟨(by exact less_int (show ((n + 1 : Nat) : Int) - 1 = ((n : Nat) : Int) by omega)), jz, jz, jz, jz, trivial⟩ (rfl) ((congrArg (fun n => ADef.mark n :: df) (by show G.length + 1 + 1 + 1 = _; omega)))⟩
end Go.Proofs.YtnbjaepkbabkhaaGreat
namespace Go.Proofs.YtnbjaepkbabkhaaGreat
open Go Go.Ab Br Hd Vr
open Ni hiding fw bw lo hi can
instance en125 : EnT Tryz.prog 125 := ⟨Ent.of Tryz.func125 (by kernel_rfl) rfl⟩
instance en32 : EnT Tryz.prog 32 := ⟨Ent.of Tryz.func32 (by kernel_rfl) rfl⟩
instance en75 : EnT Tryz.prog 75 := ⟨Ent.of Tryz.func75 (by kernel_rfl) rfl⟩
instance en76 : EnT Tryz.prog 76 := ⟨Ent.of Tryz.func76 (by kernel_rfl) rfl⟩
instance en77 : EnT Tryz.prog 77 := ⟨Ent.of Tryz.func77 (by kernel_rfl) rfl⟩
theorem filt1 {L : List (List Int)} {p : List Int} (hn : L.Nodup) (hp : p ∈ L) : L.filter (fun l => decide (l = p)) = [p] := by
  induction L with
  | nil => cases hp
  | cons a L ih =>
    have h := List.nodup_cons.1 hn
    by_cases e : a = p
    · subst e
      rw [List.filter_cons_of_pos (by simp)]
      congr 1
      rw [List.filter_eq_nil_iff]
      intro l hl q
      exact h.1 (by rw [← of_decide_eq_true q]; exact hl)
    · rw [List.filter_cons_of_neg (by simpa using e)]
      exact ih h.2 ((List.mem_cons.1 hp).resolve_left fun q => e q.symm)
def ownN (b : Bk) (k : Nat) (p : List Int) (n : Nat) : Nat := ((keptK b k n).filter (· == p)).length
def othN (b : Bk) (k : Nat) (p : List Int) (n : Nat) : Nat := ((keptK b k n).filter (fun l => !(l == p))).length
theorem own_lost {b : Bk} {k n : Nat} {p : List Int} (hn : n < b.cps.length) (hk : k < b.cps[n].length) (h : b.cps[n][k].lost = true) : ownN b k p (n + 1) = ownN b k p n ∧ othN b k p (n + 1) = othN b k p n := by
  unfold ownN othN
  rw [keptK_succ hn hk, if_pos h, List.append_nil]; exact ⟨rfl, rfl⟩
theorem own_same {b : Bk} {k n : Nat} {p : List Int} (hn : n < b.cps.length) (hk : k < b.cps[n].length) (h : b.cps[n][k].lost = false) (e : b.cps[n][k].ws = p) : ownN b k p (n + 1) = ownN b k p n + 1 ∧ othN b k p (n + 1) = othN b k p n := by
  unfold ownN othN
  rw [keptK_succ hn hk, if_neg (by rw [h]; simp), List.filter_append, List.filter_append, e]
  simp
theorem own_diff {b : Bk} {k n : Nat} {p : List Int} (hn : n < b.cps.length) (hk : k < b.cps[n].length) (h : b.cps[n][k].lost = false) (e : ¬ b.cps[n][k].ws = p) : ownN b k p (n + 1) = ownN b k p n ∧ othN b k p (n + 1) = othN b k p n + 1 := by
  unfold ownN othN
  rw [keptK_succ hn hk, if_neg (by rw [h]; simp), List.filter_append, List.filter_append]
  simp [e]
theorem own_sum (b : Bk) (k : Nat) (p : List Int) : ∀ n, ownN b k p n + othN b k p n = (keptK b k n).length := fun n => by
  unfold ownN othN
  generalize keptK b k n = L
  induction L with
  | nil => rfl
  | cons a L ih =>
    by_cases e : a = p
    · rw [List.filter_cons_of_pos (by simpa using e), List.filter_cons_of_neg (by simpa using e)]; simp only [List.length_cons]; omega
    · rw [List.filter_cons_of_neg (by simpa using e), List.filter_cons_of_pos (by simpa using e)]; simp only [List.length_cons]; omega
theorem agr1_pure (a b : Int) : APure Tryz.prog 77 [I a, I b] (B (decide (b < 0) || decide (a = b))) := by
  refine ap Tryz.func77 (fun e0 he0 => ?_)
  refine wz 4 ?_
  refine sz 7 (fun g1_2 g1_2' => ?_) (fun g1_2 g1_2' => ?_)
  ·refine wz 5 ?_
   exact rz rfl (Less.eq (by simp [*]))
  refine wz 5 ?_
  exact rz rfl (Less.eq (by simp [*]))
theorem eqf_pure (l m : List Int) (hl : l.length ≤ 1000000) (hm : m.length ≤ 1000000) (hp : ∀ x ∈ m, 0 ≤ x) : APure Tryz.prog 76 [ints l, ints m, .fn (.func 77) [] []] (B (decide (l = m))) := by
  refine ap Tryz.func76 (fun e0 he0 => ?_)
  refine wz 6 ?_
  refine iz (fun c_14 c_14' => ?_) (fun c_14 c_14' => ?_)
  ·have hne : l.length ≠ m.length := by omega
   refine wz 1 ?_
   exact rz rfl (Less.eq (congrArg B (decide_eq_false (fun q => hne (by rw [q]))).symm))
  have hle : l.length = m.length := by omega
  refine wz 3 ?_
  refine aw_loopk (ι := { k : Nat // k ≤ l.length ∧ ∀ i, (h1 : i < l.length) → (h2 : i < m.length) → i < k → l[i] = m[i] }) [1, 2, 15, 16] (fun g => [(17, I (g.1 : Nat))]) (fun H g => H) (fun g => l.length - g.1) (⟨0, Nat.zero_le _, fun i _ _ h => absurd h (Nat.not_lt_zero _)⟩) ⟨jz, jz, jz, jz, jz, trivial⟩ rfl ?_
  rintro ⟨k, hk, hok⟩
  refine nz ?_
  refine wz 1 ?_
  refine iz (fun c_18 c_18' => ?_) (fun c_18 c_18' => ?_)
  ·have hkL : k < l.length := by omega
   have hkM : k < m.length := by omega
   have hmp := hp _ (List.getElem_mem hkM)
   refine wz 13 ?_
   refine sq_ev rfl (ev_call en77.h jz (agr1_pure l[k] m[k]) ⟨jz, jz, trivial⟩) ?_
   refine wz 1 ?_
   refine iz (fun c_30 c_30' => ?_) (fun c_30 c_30' => ?_)
   ·have hno : ¬ l[k] = m[k] := by have h := c_30; simp at h; exact h.2
    have hlm : ¬ l = m := fun q => hno (by subst q; rfl)
    refine wz 1 ?_
    exact rz rfl (Less.eq (congrArg B (decide_eq_false hlm).symm))
   have heq : l[k] = m[k] := by have h := c_30; simp at h; exact h hmp
   refine wz 2 ?_
   exact ⟨⟨k + 1, by omega, fun i h1 h2 q => (by by_cases e : i = k; (subst e; exact heq); exact hok i h1 h2 (by omega))⟩, by simp only; omega, Sub.slots ⟨jz, jz, jz, jz, jz, trivial⟩⟩
  obtain rfl : k = l.length := by omega
  have hlm : l = m := List.ext_getElem hle fun i h1 h2 => hok i h1 h2 h1
  refine wz 1 ?_
  exact rz rfl (Less.eq (congrArg B (decide_eq_true hlm).symm))
theorem areS1_pure (s : Sto) (n m : Int) (hs : s.scs.length ≤ 1000000) : APure Tryz.prog 125 [I n, .iptr [I m], .iptr (stoC s)] (B (!inn n m (s.scs.length - 1))) := by
  refine ap Tryz.func125 (fun e0 he0 => ?_)
  refine wz 7 ?_
  refine kz az (in_pure _ _ _) ?_
  refine wz 2 ?_
  exact rz rfl jz
theorem areS_pure (s : Sto) (l : List Int) (m : Int) (hs : s.scs.length ≤ 1000000) (hl : l.length ≤ 1000000) : APure Tryz.prog 75 [stoA s, ints l, I m] (B (lisOK s l m)) := by
  refine ap Tryz.func75 (fun e0 he0 => ?_)
  refine vz 3 ?_
  refine sq_nil ?_
  refine aw_seq ?_
  refine aw_sub (sub_iptrK [1, 5] 3 (j := 0) (l := stoC s) rfl rfl) ?_
  refine aw_sub (sub_iptrK [1, 3] 5 (j := 1) (l := [I m]) rfl rfl) ?_
  refine wz 4 ?_
  refine sz 10 (fun g1_3 g1_3' => ?_) (fun g1_3 g1_3' => ?_)
  ·refine wz 2 ?_
   refine sq_yes rfl rfl (less_b g1_3) rfl (ev_call en110.h jz (intF_any (cap := [.iptr [I m], .iptr (stoC s)]) (q := fun n => !inn n m (s.scs.length - 1)) l hl en125.h (fun i hi => areS1_pure s _ m hs) (by simp [AV.pureL, AV.pureB])) ⟨jz, jz, trivial⟩) ?_
   refine wz 3 ?_
   exact rz rfl (Less.eq (congrArg B (by unfold lisOK; rw [← any_not (fun n => inn n m (s.scs.length - 1)) l]; first | (simp [*]; done) | (simp [*]; omega))))
  refine wz 6 ?_
  exact rz rfl (Less.eq (congrArg B (by unfold lisOK; rw [← any_not (fun n => inn n m (s.scs.length - 1)) l]; first | (simp [*]; done) | (simp [*]; omega))))
theorem agrees_pure {s : Sto} (hs : s.scs.length ≤ 1000000) (hr : s.rules.length ≤ 1000000) (hok : stoOK s = true) {m : List Int} (hm : m.length ≤ 1000000) (hp : ∀ x ∈ m, 0 ≤ x) (hli : lisOK s m (-1) = true) : APure Tryz.prog 32 [stoA s, ints m] (.tup [hds ((Br.plays s).filter fun l => decide (l = m)), I 0]) := by
  refine ap Tryz.func32 (fun e0 he0 => ?_)
  refine aw_seq ?_
  have hsto := story_pure s hs hr
  rw [hok] at hsto
  have hare := areS_pure s m (-1) hs hm
  rw [hli] at hare
  have h40 := plays_40 hok
  refine wz 4 ?_
  refine kz az (hsto) ?_
  refine wz 4 ?_
  refine ky az (hare) ?_
  refine wz 5 ?_
  refine kz az (tell_pure (sto_B hok).1) ?_
  refine kz az (plays_pure (sto_B hok).1 (sto_B hok).2.2 (sto_B hok).2.1) ?_
  refine vz 2 ?_
  refine sq_nil ?_
  refine aw_block ?_
  refine aw_sub (sub_token 6 1 jz) ?_
  refine nz ?_
  refine aw_loopk (ι := { k : Nat // k ≤ (Br.plays s).length }) [1, 20, 21] (fun g => [(22, I (g.1 : Nat)), (6, .own 1 1 (hdE (((Br.plays s).take g.1).filter fun l => decide (l = m))))]) (fun H g => [.cells (stoC s), .tok (hdE (((Br.plays s).take g.1).filter fun l => decide (l = m))).length]) (fun g => (Br.plays s).length - g.1) (⟨0, Nat.zero_le _⟩) ⟨jz, jz, jz, jz, jz, trivial⟩ rfl ?_
  rintro ⟨k, hk⟩
  refine nz ?_
  have hfl : ((Br.plays s).take k |>.filter fun l => decide (l = m)).length ≤ 40 := Nat.le_trans (List.length_filter_le _ _) (by rw [List.length_take]; omega)
  refine wz 1 ?_
  refine iz (fun c_23 c_23' => ?_) (fun c_23 c_23' => ?_)
  ·have hkL : k < (Br.plays s).length := by omega
   refine wz 5 ?_
   refine kz az (eqf_pure (Br.plays s)[k] m (by have := (play_B hok (List.getElem_mem hkL)).1; omega) hm hp) ?_
   refine wz 0 ?_
   refine iz (fun c_28 c_28' => ?_) (fun c_28 c_28' => ?_)
   ·have eS : hdE (((Br.plays s).take (k + 1)).filter fun l => decide (l = m)) = hdE (((Br.plays s).take k).filter fun l => decide (l = m)) ++ [[ints (Br.plays s)[k]]] := by rw [filt_take hkL, if_pos (by simpa using c_28)]; exact List.map_append
    refine wz 2 ?_
    refine sq_ev rfl (ev_buildSlice (es := [[_]]) sf35.h rfl rfl rfl rfl) ?_
    first | refine sq_append rfl sf35.h Tryz.underlying35 rfl rfl jz (Nat.succ_pos _) (by simp; omega) (by simp; omega) ?_ | refine sq_append rfl sf35.h Tryz.underlying35 rfl rfl (less_slx _ _) (Nat.succ_pos _) (by simp; omega) (by simp; omega) ?_
    refine wz 3 ?_
    exact ⟨⟨k + 1, by omega⟩, by simp only; omega, sb 2 ⟨jz, Less.eq (b := .own 1 1 (hdE (((Br.plays s).take (k + 1)).filter fun l => decide (l = m)))) (by rw [eS] <;> rfl), jz, jz, jz, trivial⟩ (hH := (congrArg (fun m => [AObj.cells (stoC s), .tok m]) (congrArg List.length eS.symm))) (h1 := (by simp [slotsIn, keepS, sget, AV.inB, AV.inL, inE_hds, -List.map_take, -List.filter_append]))⟩
   have eS : hdE (((Br.plays s).take (k + 1)).filter fun l => decide (l = m)) = hdE (((Br.plays s).take k).filter fun l => decide (l = m)) := by rw [filt_take hkL, if_neg (by simpa using c_28), List.append_nil]
   refine wz 2 ?_
   exact ⟨⟨k + 1, by omega⟩, by simp only; omega, sb 2 ⟨jz, Less.eq (b := .own 1 1 (hdE (((Br.plays s).take (k + 1)).filter fun l => decide (l = m)))) (by rw [eS] <;> rfl), jz, jz, jz, trivial⟩ (hH := (congrArg (fun m => [AObj.cells (stoC s), .tok m]) (congrArg List.length eS.symm))) (h1 := (by simp [slotsIn, keepS, sget, AV.inB, AV.inL, inE_hds, -List.map_take, -List.filter_append]))⟩
  obtain rfl : k = (Br.plays s).length := by omega
  refine wz 3 ?_
  exact retQ_pure (v := .tup [.own _ _ _, .raw _]) rfl rfl (less_tup ⟨(less_own _ _ _).trans (Less.eq (by rw [List.take_length])), jz, trivial⟩)
end Go.Proofs.YtnbjaepkbabkhaaGreat
namespace Go.Proofs.YtnbjaepkbabkhaaGreat
open Go Go.Ab Br Hd Vr
open Ni hiding fw bw lo hi can
theorem y26 {b : Bk} (s : BkS b) (hc : b.cps.length ≤ 8) {v : Bool} (h : bkB b = v) : APure Tryz.prog 26 [bkA b] (B v) := by have q := rbook_pure b s (by omega); rwa [h] at q
theorem y27 {b : Bk} (g : BkB b) {n : Int} {v : Bool} (h : inn n 0 (widB b - 1) = v) : APure Tryz.prog 27 [bkA b, I n] (B v) := by have q := rnum_pure b n (by have := g.nc; omega) (by have := g.wi; omega); rwa [h] at q
theorem y28 {b : Bk} (g : BkB b) {l : List Int} (hl : l.length ≤ 10) {v : Bool} (h : linB b.words l = v) : APure Tryz.prog 28 [bkA b, ints l] (B v) := by have q := rline_pure b l g.wo (by omega); rwa [h] at q
theorem y29 {a : List Int} (h : a.length ≤ 10) : APure Tryz.prog 29 [ints a, ints a] (B true) := by have q := same_pure a a (by omega) (by omega); rwa [decide_eq_true rfl] at q
theorem y30 {b : Bk} (g : BkB b) {k : Nat} (hk : k < widB b) {p : List Int} (h : (leastP b k).1 = [p]) : APure Tryz.prog 30 [bkA b, I (k : Nat)] (.tup [hds [p], I (leastP b k).2, I 0]) := by have q := xleast_pure g hk; rwa [h] at q
theorem y31 {b : Bk} (g : BkB b) {k : Nat} (hk : k < widB b) {p : List Int} (h : (leastP b k).1 = [p]) (hp : linB b.words p = true) : APure Tryz.prog 31 [bkA b, I (k : Nat)] (.tup [ints p, I 0]) := by
  have hm := mem_lnsK.1 (linB_mem g.wo.1 hp)
  have q := common_pure g hk (by rw [h]; simp) (by rw [h]; intro l hl; rw [List.mem_singleton] at hl; subst hl; omega)
  rw [h] at q
  rwa [com_one hm.2 (by omega)] at q
theorem y32 {s : Sto} (hs : s.scs.length ≤ 10) (hr : s.rules.length ≤ 12) (hok : stoOK s = true) {p : List Int} (hp : p ∈ Br.plays s) : APure Tryz.prog 32 [stoA s, ints p] (.tup [hds [p], I 0]) := by
  have hb := play_B hok hp
  have q := agrees_pure (s := s) (by omega) (by omega) hok (m := p) (by omega) (fun x hx => (hb.2 x hx).1) (by
    unfold lisOK
    rw [decide_eq_true hb.1, Bool.true_and, List.all_eq_true]
    intro x hx
    have := hb.2 x hx
    simp [inn]; omega)
  rwa [filt1 (plays_nodup s) hp] at q
theorem law5_rules (s : Sto) (n : Int) (b : Bk) (l : Int) (hr : 12 < s.rules.length) : APure Tryz.prog 5 [stoA s, I n, bkA b, I l] (B true) := by
  refine ap Tryz.func5 (fun e0 he0 => ?_)
  refine wz 6 ?_
  refine sq_ev rfl (ev_less (ev_gtr jz jz) (Less.eq (b := B true) (by simp <;> omega))) ?_
  refine wz 29 ?_
  refine kz az (known_pure) ?_
  refine wz 1 ?_
  exact rz rfl jz
theorem law5_scs (s : Sto) (n : Int) (b : Bk) (l : Int) (hr : s.rules.length ≤ 12) (hs : 10 < s.scs.length) : APure Tryz.prog 5 [stoA s, I n, bkA b, I l] (B true) := by
  refine ap Tryz.func5 (fun e0 he0 => ?_)
  refine wz 6 ?_
  refine sq_ev rfl (ev_less (ev_gtr jz jz) (Less.eq (b := B false) (by simp <;> omega))) ?_
  refine wz 4 ?_
  refine sq_yes rfl rfl jz rfl (ev_less (ev_gtr jz jz) (Less.eq (b := B true) (by simp <;> omega))) ?_
  refine wz 24 ?_
  refine kz az (known_pure) ?_
  refine wz 1 ?_
  exact rz rfl jz
theorem law5_sto (s : Sto) (n : Int) (b : Bk) (l : Int) (hr : s.rules.length ≤ 12) (hs : s.scs.length ≤ 10) (hok : stoOK s = false) : APure Tryz.prog 5 [stoA s, I n, bkA b, I l] (B true) := by
  refine ap Tryz.func5 (fun e0 he0 => ?_)
  refine wz 6 ?_
  refine sq_ev rfl (ev_less (ev_gtr jz jz) (Less.eq (b := B false) (by simp <;> omega))) ?_
  refine wz 4 ?_
  refine sq_yes rfl rfl jz rfl (ev_less (ev_gtr jz jz) (Less.eq (b := B false) (by simp <;> omega))) ?_
  refine wz 3 ?_
  refine ky az (x6 hs hr hok) ?_
  refine wz 20 ?_
  refine kz az (known_pure) ?_
  refine wz 1 ?_
  exact rz rfl jz
theorem law5_cps (s : Sto) (n : Int) (b : Bk) (l : Int) (hr : s.rules.length ≤ 12) (hs : s.scs.length ≤ 10) (hok : stoOK s = true) (hc : 8 < b.cps.length) : APure Tryz.prog 5 [stoA s, I n, bkA b, I l] (B true) := by
  refine ap Tryz.func5 (fun e0 he0 => ?_)
  refine wz 6 ?_
  refine sq_ev rfl (ev_less (ev_gtr jz jz) (Less.eq (b := B false) (by simp <;> omega))) ?_
  refine wz 4 ?_
  refine sq_yes rfl rfl jz rfl (ev_less (ev_gtr jz jz) (Less.eq (b := B false) (by simp <;> omega))) ?_
  refine wz 3 ?_
  refine ky az (x6 hs hr hok) ?_
  refine wz 6 ?_
  refine sq_yes rfl rfl jz rfl (ev_less (ev_gtr jz jz) (Less.eq (b := B true) (by simp <;> omega))) ?_
  refine wz 13 ?_
  refine kz az (known_pure) ?_
  refine wz 1 ?_
  exact rz rfl jz
theorem law5_book (s : Sto) (n : Int) (b : Bk) (l : Int) (hr : s.rules.length ≤ 12) (hs : s.scs.length ≤ 10) (hok : stoOK s = true) (hS : BkS b) (hc : b.cps.length ≤ 8) (hb : bkB b = false) : APure Tryz.prog 5 [stoA s, I n, bkA b, I l] (B true) := by
  refine ap Tryz.func5 (fun e0 he0 => ?_)
  refine wz 6 ?_
  refine sq_ev rfl (ev_less (ev_gtr jz jz) (Less.eq (b := B false) (by simp <;> omega))) ?_
  refine wz 4 ?_
  refine sq_yes rfl rfl jz rfl (ev_less (ev_gtr jz jz) (Less.eq (b := B false) (by simp <;> omega))) ?_
  refine wz 3 ?_
  refine ky az (x6 hs hr hok) ?_
  refine wz 6 ?_
  refine sq_yes rfl rfl jz rfl (ev_less (ev_gtr jz jz) (Less.eq (b := B false) (by simp <;> omega))) ?_
  refine wz 3 ?_
  refine ky az (y26 hS hc hb) ?_
  refine wz 9 ?_
  refine kz az (known_pure) ?_
  refine wz 1 ?_
  exact rz rfl jz
theorem law5_num (s : Sto) (n : Int) (b : Bk) (l : Int) (hr : s.rules.length ≤ 12) (hs : s.scs.length ≤ 10) (hok : stoOK s = true) (hS : BkS b) (hc : b.cps.length ≤ 8) (g : BkB b) (hb : bkB b = true) (hl : inn l 0 (widB b - 1) = false) : APure Tryz.prog 5 [stoA s, I n, bkA b, I l] (B true) := by
  refine ap Tryz.func5 (fun e0 he0 => ?_)
  refine wz 6 ?_
  refine sq_ev rfl (ev_less (ev_gtr jz jz) (Less.eq (b := B false) (by simp <;> omega))) ?_
  refine wz 4 ?_
  refine sq_yes rfl rfl jz rfl (ev_less (ev_gtr jz jz) (Less.eq (b := B false) (by simp <;> omega))) ?_
  refine wz 3 ?_
  refine ky az (x6 hs hr hok) ?_
  refine wz 6 ?_
  refine sq_yes rfl rfl jz rfl (ev_less (ev_gtr jz jz) (Less.eq (b := B false) (by simp <;> omega))) ?_
  refine wz 3 ?_
  refine ky az (y26 hS hc hb) ?_
  refine wz 5 ?_
  refine ky az (y27 g hl) ?_
  refine wz 3 ?_
  refine kz az (known_pure) ?_
  refine wz 1 ?_
  exact rz rfl jz
theorem law5_neg (s : Sto) (n : Int) (b : Bk) (l : Int) (hr : s.rules.length ≤ 12) (hs : s.scs.length ≤ 10) (hok : stoOK s = true) (hS : BkS b) (hc : b.cps.length ≤ 8) (g : BkB b) (hb : bkB b = true) (hl : inn l 0 (widB b - 1) = true) (hn : n < 0) : APure Tryz.prog 5 [stoA s, I n, bkA b, I l] (B true) := by
  refine ap Tryz.func5 (fun e0 he0 => ?_)
  refine wz 6 ?_
  refine sq_ev rfl (ev_less (ev_gtr jz jz) (Less.eq (b := B false) (by simp <;> omega))) ?_
  refine wz 4 ?_
  refine sq_yes rfl rfl jz rfl (ev_less (ev_gtr jz jz) (Less.eq (b := B false) (by simp <;> omega))) ?_
  refine wz 3 ?_
  refine ky az (x6 hs hr hok) ?_
  refine wz 6 ?_
  refine sq_yes rfl rfl jz rfl (ev_less (ev_gtr jz jz) (Less.eq (b := B false) (by simp <;> omega))) ?_
  refine wz 3 ?_
  refine ky az (y26 hS hc hb) ?_
  refine wz 5 ?_
  refine ky az (y27 g hl) ?_
  refine wz 4 ?_
  refine kz az (x9 hs hr hok) ?_
  refine wz 10 ?_
  refine sq_yes rfl rfl jz rfl (ev_less (ev_gtr jz jz) (Less.eq (b := B false) (by have := plays_40 hok; simp <;> omega))) ?_
  refine wz 2 ?_
  refine aw_draw 17 mo (by kernel_rfl) ?_
  refine dz 1 ?_
  refine dr_ev rfl (ev_less (ev_lss jz jz) (Less.eq (b := B true) (by simp <;> omega))) ?_
  refine dz 15 ?_
  refine wz 1 ?_
  refine kz az (known_pure) ?_
  refine wz 1 ?_
  exact rz rfl jz
theorem law5_big (s : Sto) (n : Int) (b : Bk) (l : Int) (hr : s.rules.length ≤ 12) (hs : s.scs.length ≤ 10) (hok : stoOK s = true) (hS : BkS b) (hc : b.cps.length ≤ 8) (g : BkB b) (hb : bkB b = true) (hl : inn l 0 (widB b - 1) = true) (hn : 0 ≤ n) (hn2 : (Br.plays s).length ≤ n) : APure Tryz.prog 5 [stoA s, I n, bkA b, I l] (B true) := by
  refine ap Tryz.func5 (fun e0 he0 => ?_)
  refine wz 6 ?_
  refine sq_ev rfl (ev_less (ev_gtr jz jz) (Less.eq (b := B false) (by simp <;> omega))) ?_
  refine wz 4 ?_
  refine sq_yes rfl rfl jz rfl (ev_less (ev_gtr jz jz) (Less.eq (b := B false) (by simp <;> omega))) ?_
  refine wz 3 ?_
  refine ky az (x6 hs hr hok) ?_
  refine wz 6 ?_
  refine sq_yes rfl rfl jz rfl (ev_less (ev_gtr jz jz) (Less.eq (b := B false) (by simp <;> omega))) ?_
  refine wz 3 ?_
  refine ky az (y26 hS hc hb) ?_
  refine wz 5 ?_
  refine ky az (y27 g hl) ?_
  refine wz 4 ?_
  refine kz az (x9 hs hr hok) ?_
  refine wz 10 ?_
  refine sq_yes rfl rfl jz rfl (ev_less (ev_gtr jz jz) (Less.eq (b := B false) (by have := plays_40 hok; simp <;> omega))) ?_
  refine wz 2 ?_
  refine aw_draw 17 mo (by kernel_rfl) ?_
  refine dz 1 ?_
  refine dr_ev rfl (ev_less (ev_lss jz jz) (Less.eq (b := B false) (by simp <;> omega))) ?_
  refine dz 4 ?_
  refine dr_yes rfl rfl jz rfl (ev_less (ev_geq jz jz) (Less.eq (b := B true) (by simp <;> omega))) ?_
  refine dz 10 ?_
  refine wz 1 ?_
  refine kz az (known_pure) ?_
  refine wz 1 ?_
  exact rz rfl jz
theorem law5_line (s : Sto) {w : Nat} (hw : w < (Br.plays s).length) (b : Bk) {k : Nat} (hk : k < widB b) (hr : s.rules.length ≤ 12) (hs : s.scs.length ≤ 10) (hok : stoOK s = true) (hS : BkS b) (hc : b.cps.length ≤ 8) (g : BkB b) (hb : bkB b = true) (hp : linB b.words (Br.plays s)[w] = false) : APure Tryz.prog 5 [stoA s, I (w : Nat), bkA b, I (k : Nat)] (B true) := by
  refine ap Tryz.func5 (fun e0 he0 => ?_)
  refine aw_seq ?_
  have hwi := g.wi
  refine wz 6 ?_
  refine sq_ev rfl (ev_less (ev_gtr jz jz) (Less.eq (b := B false) (by simp <;> omega))) ?_
  refine wz 4 ?_
  refine sq_yes rfl rfl jz rfl (ev_less (ev_gtr jz jz) (Less.eq (b := B false) (by simp <;> omega))) ?_
  refine wz 3 ?_
  refine ky az (x6 hs hr hok) ?_
  refine wz 6 ?_
  refine sq_yes rfl rfl jz rfl (ev_less (ev_gtr jz jz) (Less.eq (b := B false) (by simp <;> omega))) ?_
  refine wz 3 ?_
  refine ky az (y26 hS hc hb) ?_
  refine wz 5 ?_
  refine ky az (y27 g (n := (k : Nat)) (v := true) (by simp [inn]; omega)) ?_
  refine wz 4 ?_
  refine kz az (x9 hs hr hok) ?_
  refine wz 10 ?_
  refine sq_yes rfl rfl jz rfl (ev_less (ev_gtr jz jz) (Less.eq (b := B false) (by have := plays_40 hok; simp <;> omega))) ?_
  refine wz 2 ?_
  refine aw_draw 17 mo (by kernel_rfl) ?_
  refine dz 1 ?_
  refine dr_ev rfl (ev_less (ev_lss jz jz) (Less.eq (b := B false) (by simp <;> omega))) ?_
  refine dz 4 ?_
  refine dr_yes rfl rfl jz rfl (ev_less (ev_geq jz jz) (Less.eq (b := B false) (by simp <;> omega))) ?_
  refine dz 5 ?_
  refine dr_yes rfl rfl jz rfl (ev_index_map (k := w) (xs := Br.plays s) (f := fun h => [ints h]) sl35.h jz jz rfl hw) ?_
  refine dz 1 ?_
  refine dky az (y28 g (play_B hok (List.getElem_mem hw)).1 hp) ?_
  refine dz 2 ?_
  refine wz 1 ?_
  refine kz az (known_pure) ?_
  refine wz 1 ?_
  exact rz rfl jz
theorem law5_main (s : Sto) {w : Nat} (hw : w < (Br.plays s).length) (b : Bk) {k : Nat} (hk : k < widB b) (hr : s.rules.length ≤ 12) (hs : s.scs.length ≤ 10) (hok : stoOK s = true) (hS : BkS b) (hc : b.cps.length ≤ 8) (g : BkB b) (hb : bkB b = true) {p : List Int} (hpp : (Br.plays s)[w] = p) (hp : linB b.words p = true) : APure Tryz.prog 5 [stoA s, I (w : Nat), bkA b, I (k : Nat)] (B true) := by
  refine ap Tryz.func5 (fun e0 he0 => ?_)
  refine aw_seq ?_
  have hwi := g.wi
  have hnc := g.nc
  have hpm : p ∈ Br.plays s := hpp ▸ List.getElem_mem hw
  have hpl := (play_B hok hpm).1
  refine wz 6 ?_
  refine sq_ev rfl (ev_less (ev_gtr jz jz) (Less.eq (b := B false) (by simp <;> omega))) ?_
  refine wz 4 ?_
  refine sq_yes rfl rfl jz rfl (ev_less (ev_gtr jz jz) (Less.eq (b := B false) (by simp <;> omega))) ?_
  refine wz 3 ?_
  refine ky az (x6 hs hr hok) ?_
  refine wz 6 ?_
  refine sq_yes rfl rfl jz rfl (ev_less (ev_gtr jz jz) (Less.eq (b := B false) (by simp <;> omega))) ?_
  refine wz 3 ?_
  refine ky az (y26 hS hc hb) ?_
  refine wz 5 ?_
  refine ky az (y27 g (n := (k : Nat)) (v := true) (by simp [inn]; omega)) ?_
  refine wz 4 ?_
  refine kz az (x9 hs hr hok) ?_
  refine wz 10 ?_
  refine sq_yes rfl rfl jz rfl (ev_less (ev_gtr jz jz) (Less.eq (b := B false) (by have := plays_40 hok; simp <;> omega))) ?_
  refine wz 2 ?_
  refine aw_draw 17 mo (by kernel_rfl) ?_
  refine dz 1 ?_
  refine dr_ev rfl (ev_less (ev_lss jz jz) (Less.eq (b := B false) (by simp <;> omega))) ?_
  refine dz 4 ?_
  refine dr_yes rfl rfl jz rfl (ev_less (ev_geq jz jz) (Less.eq (b := B false) (by simp <;> omega))) ?_
  refine dz 5 ?_
  refine dr_yes rfl rfl jz rfl (ev_index_map (k := w) (xs := Br.plays s) (f := fun h => [ints h]) sl35.h jz jz rfl hw) ?_
  refine dz 1 ?_
  refine dky az (y28 g (play_B hok (List.getElem_mem hw)).1 (hpp.symm ▸ hp)) ?_
  refine dz 2 ?_
  refine wz 3 ?_
  refine sq_ev rfl (ev_index_map (k := w) (xs := Br.plays s) (f := fun h => [ints h]) sl35.h jz jz rfl hw) ?_
  refine vz 2 ?_
  refine sq_nil ?_
  refine aw_seq ?_
  rw [hpp]
  refine wz 3 ?_
  refine aw_loopk (ι := { n : Nat // n ≤ b.cps.length }) [3, 4, 6, 11] (fun g => [(12, I (ownN b k p g.1 : Nat)), (13, I (othN b k p g.1 : Nat)), (14, I (g.1 : Nat))]) (fun H g => [.cells (stoC s), .cells (bkC b)]) (fun g => b.cps.length - g.1) (⟨0, Nat.zero_le _⟩) ⟨jz, jz, jz, jz, jz, jz, jz, trivial⟩ rfl ?_
  rintro ⟨n, hn⟩
  refine nz ?_
  have hos := own_sum b k p n
  have hkl := keptK_len b k n
  refine wz 5 ?_
  refine iz (fun c_94 c_94' => ?_) (fun c_94 c_94' => ?_)
  ·have hnL : n < b.cps.length := by omega
   have hkc : k < b.cps[n].length := by rw [g.le _ (List.getElem_mem hnL)]; exact hk
   refine wz 6 ?_
   refine sq_ev rfl (ev_index_map (k := k) (xs := b.cps[n]) (f := linC) sl91.h jz jz rfl hkc) ?_
   refine wz 7 ?_
   refine sz 108 (fun g14_3 g14_3' => ?_) (fun g14_3 g14_3' => ?_)
   ·have hlo : b.cps[n][k].lost = false := by simpa using g14_3
    refine wz 3 ?_
    refine ky az (same_pure _ p (by have := (g.ln _ (List.getElem_mem hnL) _ (List.getElem_mem hkc)).2; omega) (by omega)) ?_
    refine wz 1 ?_
    refine iz (fun c_113 c_113' => ?_) (fun c_113 c_113' => ?_)
    ·try have eO := own_same (p := p) hnL hkc hlo (by simpa using c_113)
     refine wz 6 ?_
     exact ⟨⟨n + 1, by omega⟩, by simp only; omega, sb 2 ⟨(by exact less_int (by rw [eO.1] <;> simp)), (by exact less_int (by rw [eO.2] <;> simp)), jz, jz, jz, jz, jz, trivial⟩⟩
    try have eO := own_diff (p := p) hnL hkc hlo (by simpa using c_113)
    refine wz 3 ?_
    refine iz (fun c_118 c_118' => ?_) (fun c_118 c_118' => ?_)
    ·refine wz 6 ?_
     exact ⟨⟨n + 1, by omega⟩, by simp only; omega, sb 2 ⟨(by exact less_int (by rw [eO.1] <;> simp)), (by exact less_int (by rw [eO.2] <;> simp)), jz, jz, jz, jz, jz, trivial⟩⟩
    exfalso
    simp [hlo] at c_118
   have hlo : b.cps[n][k].lost = true := by simpa using g14_3
   have eO := own_lost (p := p) hnL hkc hlo
   refine wz 9 ?_
   refine iz (fun c_118 c_118' => ?_) (fun c_118 c_118' => ?_)
   ·exfalso
    simp [hlo] at c_118
   refine wz 3 ?_
   exact ⟨⟨n + 1, by omega⟩, by simp only; omega, sb 2 ⟨(by exact less_int (by rw [eO.1] <;> simp)), (by exact less_int (by rw [eO.2] <;> simp)), jz, jz, jz, jz, jz, trivial⟩⟩
  obtain rfl : n = b.cps.length := by omega
  refine wz 3 ?_
  refine iz (fun c_123 c_123' => ?_) (fun c_123 c_123' => ?_)
  ·refine wz 0 ?_
   refine kz az (known_pure) ?_
   refine wz 1 ?_
   exact rz rfl jz
  have hmaj : (kept b k).length < 2 * ((kept b k).filter (· == p)).length := by rw [← keptK_all, ← own_sum b k p]; show _ < 2 * ownN b k p b.cps.length; omega
  have hle : (leastP b k).1 = [p] := by rw [least_only g.wo.1 hp hmaj]
  refine wz 2 ?_
  refine kz az (y30 g hk hle) ?_
  refine wz 9 ?_
  refine kz az (y31 g hk hle hp) ?_
  refine wz 18 ?_
  refine sq_yes rfl rfl jz rfl (ev_index_map (k := 0) (xs := [p]) (f := fun h => [ints h]) sl35.h jz jz rfl (by simp)) ?_
  refine wz 2 ?_
  refine ky az (y29 hpl) ?_
  refine wz 5 ?_
  refine ky az (y29 hpl) ?_
  refine wz 5 ?_
  refine kz az (y32 hs hr hok hpm) ?_
  refine wz 14 ?_
  refine sq_yes rfl rfl jz rfl (ev_index_map (k := 0) (xs := [p]) (f := fun h => [ints h]) sl35.h jz jz rfl (by simp)) ?_
  refine wz 2 ?_
  refine ky az (y29 hpl) ?_
  refine wz 2 ?_
  refine ky az (known_pure) ?_
  refine wz 2 ?_
  exact rz rfl jz
/-- **TopRemembered returns true.** -/
theorem law5 (s : Sto) (n : Int) (_ : -9223372036854775808 ≤ n) (_ : n ≤ 9223372036854775807) (b : Bk) (hS : BkS b) (l : Int) (_ : -9223372036854775808 ≤ l) (_ : l ≤ 9223372036854775807) : APure Tryz.prog 5 [stoA s, I n, bkA b, I l] (B true) := by
  rcases Nat.lt_or_ge 12 s.rules.length with hr | hr
  · exact law5_rules s n b l hr
  rcases Nat.lt_or_ge 10 s.scs.length with hs | hs
  · exact law5_scs s n b l hr hs
  cases hok : stoOK s with
  | false => exact law5_sto s n b l hr hs hok
  | true =>
  rcases Nat.lt_or_ge 8 b.cps.length with hc | hc
  · exact law5_cps s n b l hr hs hok hc
  cases hb : bkB b with
  | false => exact law5_book s n b l hr hs hok hS hc hb
  | true =>
  have g := bkB_iff hb
  cases hl : inn l 0 (widB b - 1) with
  | false => exact law5_num s n b l hr hs hok hS hc g hb hl
  | true =>
  rcases Int.lt_or_le n 0 with hn | hn
  · exact law5_neg s n b l hr hs hok hS hc g hb hl hn
  rcases Int.lt_or_le n (Br.plays s).length with hn2 | hn2
  · obtain ⟨w, rfl⟩ : ∃ w : Nat, n = w := ⟨n.toNat, by omega⟩
    simp only [inn, Bool.and_eq_true, decide_eq_true_eq] at hl
    obtain ⟨k, rfl⟩ : ∃ k : Nat, l = k := ⟨l.toNat, by omega⟩
    have hw : w < (Br.plays s).length := by omega
    have hk : k < widB b := by omega
    cases hp : linB b.words (Br.plays s)[w] with
    | false => exact law5_line s hw b hk hr hs hok hS hc g hb hp
    | true => exact law5_main s hw b hk hr hs hok hS hc g hb rfl hp
  · exact law5_big s n b l hr hs hok hS hc g hb hl hn hn2
end Go.Proofs.YtnbjaepkbabkhaaGreat
namespace Go.Proofs.YtnbjaepkbabkhaaGreat
open Go Go.Ab Br Vr Go.ChangeShapes Go.WideShapes Go.RowKit
abbrev shLin : Sh := .two .bool (.two (.sl sI) .unit)
abbrev shBook : Sh := .two sI (.two (.sl (.sl shLin)) .unit)
theorem sh85 : shOf Tryz.prog 6 85 = some shBook := by kernel_rfl
def linD (x : shLin.den) : Lin := ⟨x.1, x.2.1⟩
def copD (c : List shLin.den) : List Lin := List.map linD c
def bookD (y : shBook.den) : Bk := ⟨y.1, List.map copD y.2.1⟩
theorem map_lin : ∀ l : List shLin.den, (List.map linD l).map linC = List.map shLin.av l
  | [] => rfl
  | x :: l => congrArg (List.cons (shLin.av x)) (map_lin l)
theorem map_cop : ∀ l : List (List shLin.den), (List.map copD l).map (fun c => [lins c]) = List.map (Sh.sl shLin).av l
  | [] => rfl
  | c :: l => congr (congrArg (fun a b => [AV.sl 2 a] :: b) (map_lin c)) (map_cop l)
theorem av_book (y : shBook.den) : shBook.av y = bkC (bookD y) := congrArg (fun a => [I y.1, AV.sl 1 a]) (map_cop y.2.1).symm
theorem maxLen_is : maxLen = 9223372036854775807 := by decide
theorem book_S {y : shBook.den} (h : shBook.bnd y) : BkS (bookD y) := by
  have h1 : ∀ c : List shLin.den, List.Mem c y.2.1 → List.length c ≤ maxLen ∧ ∀ x : shLin.den, List.Mem x c → shLin.bnd x := h.2.1.2
  rw [maxLen_is] at h1
  have h2 : ∀ c ∈ (bookD y).cps, (c.length : Int) ≤ 9223372036854775807 ∧ ∀ x ∈ c, (x.ws.length : Int) ≤ 9223372036854775807 := fun c hc => by
    obtain ⟨d, hd, rfl⟩ := List.mem_map.1 (show c ∈ List.map copD y.2.1 from hc)
    obtain ⟨q1, q2⟩ := h1 d hd
    refine ⟨by unfold copD; rw [List.length_map]; omega, fun x hx => ?_⟩
    obtain ⟨u, hu, rfl⟩ := List.mem_map.1 (show x ∈ List.map linD d from hx)
    have q3 : List.length (α := Int) u.2.1 ≤ maxLen := (q2 u hu).2.1.1
    rw [maxLen_is] at q3
    show ((List.length (α := Int) u.2.1 : Nat) : Int) ≤ _
    omega
  exact ⟨fun c hc => (h2 c hc).1, fun c hc => (h2 c hc).2⟩
theorem arg_vbk {H : Type} {enc : TypeId × Value → H} {w : World} {v : Value} {d : DataW H} {ps : List MemPlace} {r : Reach} {b0 : Nat} {base : Nat} {spare : Nat → Bool} {held : Bool} (hsr : ∀ b, spare b = true)
    (hv : Value.okWide Tryz.prog w r b0 85 v) (h : DataW.Trod enc Tryz.prog w base spare held 85 v d ps) : ∃ b : Bk, Rep (env0 w) (bkA b) v ∧ BkS b := by
  obtain ⟨y, hy, hc, hb⟩ := sh_argB hsr 6 sh85 h
  rw [av_book] at hy
  exact ⟨bookD y, arg_agg (.inl ⟨_, Tryz.underlying85⟩) hv ⟨hy, hc⟩, book_S hb⟩
end Go.Proofs.YtnbjaepkbabkhaaGreat
