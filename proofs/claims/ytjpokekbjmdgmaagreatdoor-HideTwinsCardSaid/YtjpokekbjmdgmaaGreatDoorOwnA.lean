/-
  A part of the proof: conditions: none beyond each theorem's own.
-/
import Derived.Test.YtjpokekbjmdgmaaGreatDoorLogicA
import Derived.Test.YtjpokekbjmdgmaaGreatDoorLogicB
import Derived.Test.YtjpokekbjmdgmaaGreatDoorLogicD
import Derived.Laws.Small
import Derived.Deep.Slices
import Derived.OpenShut
import Derived.Carry
import Derived.Test.YtjpokekbjmdgmaaGreatDoorLogicC
import Derived.IntWalk
import Derived.Test.YtjpokekbjmdgmaaGreatDoorSpecA
import Derived.Test.YtjpokekbjmdgmaaGreatDoorProg
import Derived.KernelRfl
import Derived.Lib.LaidTab
import Derived.Lib.ItoaNum
import Derived.Test.YtjpokekbjmdgmaaGreatDoorWalkC
import Derived.Test.YtjpokekbjmdgmaaGreatDoorWalkE
import Derived.Test.YtjpokekbjmdgmaaGreatDoorShelf
import Derived.Test.YtjpokekbjmdgmaaGreatDoorWalkA
import Derived.Test.YtjpokekbjmdgmaaGreatDoorWalkB
import Derived.Test.YtjpokekbjmdgmaaGreatDoorWalkD
import Derived.Test.YtjpokekbjmdgmaaGreatDoorRow
set_option linter.all false
set_option maxRecDepth 100000
set_option maxHeartbeats 8000000
namespace Go.Ab
variable [Tabs]
theorem FW_room (r : Option Nat) (n : Nat) : (FW r).room n := fun _ h => by simp [FW] at h
variable {c : Ctx} {Q : AExit → St → Prop} {s : St}
end Go.Ab
namespace Go.Ab
variable [Tabs]
section tok
variable {c : Ctx} {ops : Array Oper} {Q : AExit → St → Prop} {rest : List Oper} {s : St} {i : Nat}
variable {d : Option Tmp} {t : TypeId} {p : String} {af : Array Edge}
theorem sq_append_new {x y : Operand} {st xt et et' : TypeId} {sz bytes : Nat} {es xs : List (List AV)} (hd : dOK c.nt d = true)
    (hf : SlFact c.P st et sz bytes) (hk : c.P.underlying xt = some (.slice et')) (hx : Less (s.op x) (.slx sz es)) (hy : Less (s.op y) (.sl sz xs))
    (hb : (es.length + xs.length) * bytes ≤ 140737488355328) (h63 : es.length + xs.length ≤ 9223372036854775807)
    (k : SeqWP c ops Q (i + 1) rest (St.put { s with H := s.H ++ [.tok (es ++ xs).length] } d (.own s.H.length sz (es ++ xs)))) : SeqWP c ops Q i (⟨d, .call ⟨.builtin .append, #[x, y], #[st, xt]⟩, t, p, af, none⟩ :: rest) s := by
  rw [List.length_append] at k
  refine sq_op fun e ac hs next hn' => ?_
  have hu := hx e _ (hs.op x)
  have hv := hy e _ (hs.op y)
  have hu' := hu
  rw [Rep] at hu'
  obtain ⟨a, len, hv1, hlen, hnil, hsz, hc⟩ := hu'
  refine ⟨about_FW _ _ _ _ _, ?_⟩
  show Oper.uponIn (FW c.r) 0 c.P _ ac next (lift c Q) (((Oper.semAt c.r ac.eval ⟨d, .call ⟨.builtin .append, #[x, y], #[st, xt]⟩, t, p, af, none⟩)).run c.P e.w)
  rw [semAt_of (by intro c h; cases h)]
  have hex : (execOp ac.eval ⟨d, .call ⟨.builtin .append, #[x, y], #[st, xt]⟩, t, p, af, none⟩).run c.P e.w = ((Builtin.append_ #[st, xt] t #[.slice a len len, ac.eval y]).run c.P e.w).andThen fun v w'' => .ok (.value v) w'' := by
    simp [execOp, resolve, invoke, builtin, hv1]
  rw [hex]
  subst hlen
  rcases Nat.eq_zero_or_pos xs.length with h0 | hpos
  · have : xs = [] := List.length_eq_zero_iff.1 h0
    subst this
    rw [run_append_nothing' hf hk hv (Nat.le_refl _)]
    obtain ⟨e', hw, hG, le, hH, hμ, hs'⟩ := sim_tok hs es.length
    have := Rep.mono le _ (less_slx _ _ _ _ hu)
    rw [hv1, Rep] at this
    obtain ⟨a', len', cap', q1, q2, q3, q4, q5, q6⟩ := this
    cases q1
    show next _ e.w
    rw [← hw]
    refine hn' _ e' _ k (hs'.put hd ?_)
    rw [Rep, List.append_nil]
    refine ⟨a, es.length, es.length, rfl, rfl, Nat.le_refl _, fun h => hnil h, hsz, q6, by rw [hH]; simp, ⟨es.length, by unfold Env.T; rw [hH]; simp [tokOf], Nat.le_refl _⟩, fun _ ad _ hlt => absurd hlt (Nat.lt_irrefl _)⟩
  · obtain ⟨e1, hw1, hG1, le1, hH1, hμ1, hs1⟩ := sim_tok hs 0
    have hlast : e1.H[s.H.length]? = some (.tok 0) := by rw [hH1]; simp
    have hTj : e1.T s.H.length = some 0 := by unfold Env.T; rw [hlast]; rfl
    have hjl : s.H.length < e1.H.length := by rw [hH1]; simp
    have hv' : Rep e1 (.sl sz xs) (ac.eval y) := Rep.mono le1 _ hv
    have hc' : ∀ ad, a = some ad → (es.length ≠ 0 → ad.spot = none) ∧ ElemsAt e1 es ad.block ad.off := fun ad h => ⟨(hc ad h).1, ElemsAt.mono le1 es (hc ad h).2⟩
    obtain ⟨cap', cs, w', hrun, hw, hst, hle2, hcs, hcells, hall⟩ := run_append_row (P := c.P) (t := t) (cap := es.length) hs1.ok hf hk rfl hnil hsz hc' hv' (by omega) hb h63
    have hj : ({ s with H := s.H ++ [.tok 0] } : St).H[s.H.length]? = some (.tok 0) := by simp
    obtain ⟨hsim, hle'⟩ := hs1.grew (j := s.H.length) (b := e1.w.heap.size) (n := 0) (n' := es.length + xs.length) (g := (es.length + xs.length) * sz) (w' := w') hst hj (by omega) (.inr rfl) (by rw [hs1.ok.fresh _ (Nat.le_refl _)]; omega) (by simp [hw]) (by simp [hw])
      (fun b' hb' hne => by rw [hw, Array.getElem?_push, if_neg hne]) (fun m hmlt => by rw [hs1.ok.fresh _ (Nat.le_refl _)] at hmlt; omega) (fun b' hb' h => by simp [hw] at hb'; omega)
    rw [← hw1, hrun]
    have hset : (s.H ++ [AObj.tok 0]).set s.H.length (.tok (es.length + xs.length)) = s.H ++ [.tok (es.length + xs.length)] := by
      rw [List.set_append_right _ _ (Nat.le_refl _)]; simp
    have hsim' : Sim c { s with H := s.H ++ [.tok (es.length + xs.length)] } (e1.grew s.H.length e1.w.heap.size (es.length + xs.length) ((es.length + xs.length) * sz) w') ac := by
      rw [← hset]; exact hsim
    refine hn' _ _ _ k (hsim'.put hd ?_)
    rw [Rep]
    refine ⟨_, _, _, rfl, by simp, hle2, (fun h => by cases h), hall, fun ad had => ?_, by simpa [Env.grew] using hjl, ⟨es.length + xs.length, by rw [Env.grew_T hjl, if_pos rfl], by simp⟩, fun _ ad had hlt => ?_⟩
    · simp only [Option.some.injEq] at had; subst had
      refine ⟨fun _ => rfl, ElemsAt.flat.2 ?_⟩
      have hxt : Ext e1 (e1.row ((es.length + xs.length) * sz) w') := Env.row_ext hs1.ok hw hst
      have le3 : (e1.row ((es.length + xs.length) * sz) w').Le (e1.grew s.H.length e1.w.heap.size (es.length + xs.length) ((es.length + xs.length) * sz) w') := by
        have hT : ∀ i, (e1.row ((es.length + xs.length) * sz) w').T i = e1.T i := fun i => rfl
        refine ⟨by simp [Env.grew, Env.row], fun i hi ht => ?_, fun b' off ho => ⟨ho, rfl⟩, fun i m ht => ?_⟩
        · rw [hT] at ht
          have hij : i ≠ s.H.length := fun h => by subst h; rw [hTj] at ht; cases ht
          rw [Env.grew_T hjl, if_neg hij]; exact ⟨ht, fun _ hb => by simpa [Env.grew, hij, Env.row] using hb⟩
        · rw [hT] at ht
          by_cases hij : i = s.H.length
          · subst hij
            have : m = 0 := by rw [hTj] at ht; exact (Option.some.inj ht).symm
            subst this
            exact ⟨_, by rw [Env.grew_T hjl, if_pos rfl], by omega, fun h => by omega⟩
          · exact ⟨m, by rw [Env.grew_T hjl, if_neg hij]; exact ht, Nat.le_refl _, fun _ => ⟨by simp [Env.grew, hij, Env.row], fun b' cs t _ hh => ⟨rfl, cs, hh, rfl⟩⟩⟩
      exact CellsAt.mono le3 _ hcells
    · simp only [Option.some.injEq] at had; subst had
      exact ⟨by simp [Env.grew], by simp [Env.grew], cs, et, by simp [Env.grew, hw], by simp [hcs]⟩
end tok
section eff
variable {c : Ctx} {Q : AExit → St → Prop} {H : List AObj} {df : List ADef} {ρ : Operand → AV} {d : Option Tmp} {t : TypeId} {p : String} {af : Array Edge}
theorem eff_append_new {x y : Operand} {st xt et et' : TypeId} {sz bytes : Nat} {es xs : List (List AV)} (hd : dOK c.nt d = true)
    (hf : SlFact c.P st et sz bytes) (hk : c.P.underlying xt = some (.slice et')) (hx : Less (ρ x) (.slx sz es)) (hy : Less (ρ y) (.sl sz xs))
    (hb : (es.length + xs.length) * bytes ≤ 140737488355328) (h63 : es.length + xs.length ≤ 9223372036854775807) :
    Eff c Q ⟨d, .call ⟨.builtin .append, #[x, y], #[st, xt]⟩, t, p, af, none⟩ H df ρ (.own H.length sz (es ++ xs)) (H ++ [.tok (es ++ xs).length]) :=
  eff_of rfl fun s hH hop Q k => by
    subst hH
    exact sq_append_new hd hf hk (by rw [hop x (by simp [Op.operands, Call.operands])]; exact hx) (by rw [hop y (by simp [Op.operands, Call.operands])]; exact hy) hb h63 k
end eff
end Go.Ab
namespace Go.Ab
variable [Tabs]
section
variable {P : Program} {r : Option Nat} {H : List AObj} {ρ : Operand → AV}
variable {d : Option Tmp} {t : TypeId} {p : String} {af : Array Edge} {g : Option (Nat × Bool)} {x y : Operand}
theorem ev_bool2 {op : BinOp} {a b : Bool} {xt yt : TypeId} {v : AV} (hx : Less (ρ x) (.raw (.bool a))) (hy : Less (ρ y) (.raw (.bool b)))
    (hr : ∀ w e, ∃ u, (binOp op xt (.bool a) (.bool b)).run P w = .ok u w ∧ Rep e v u) : Ev P r ⟨d, .binOp op xt x y yt, t, p, af, g⟩ H ρ v :=
  Ev.pure (by intro c h; cases h) fun e ρc _ _ hs => by
    have e1 := rep_raw hx (hs x (by simp [Op.operands]))
    have e2 := rep_raw hy (hs y (by simp [Op.operands]))
    obtain ⟨u, h1, h2⟩ := hr e.w e
    refine ⟨u, ?_, h2⟩
    have hg : (eqGuard op xt x y (.bool a) (.bool b)).run P e.w = .ok () e.w := by
      unfold eqGuard; split <;> simp
    simp [execOp, e1, e2, hg, h1]
theorem ev_eqlB {a b : Bool} {xt yt : TypeId} (ht : P.underlying xt = some .bool) (hx : Less (ρ x) (.raw (.bool a))) (hy : Less (ρ y) (.raw (.bool b))) :
    Ev P r ⟨d, .binOp .eql xt x y yt, t, p, af, g⟩ H ρ (.raw (.bool (a == b))) :=
  ev_bool2 hx hy fun w e => ⟨_, run_eql_bool w xt a b ht, by rw [Rep]⟩
end
end Go.Ab
namespace Go.Ab
open Go.ChangeShapes Go.WideShapes
variable [Tabs]
theorem env0_ok {w : World} (h : Tabs.is w) (hb : ∀ b, Tabs.blk b → b < w.heap.size) : EnvOK (env0 w) :=
  ⟨fun b hb => by have hb' : w.heap.size ≤ b := hb
                  have : w.heap[b]? = none := by simpa using hb'
                  simp [env0, this], fun i o h => by simp [env0] at h, fun i j b hi => by simp [env0] at hi, fun i b hi => by simp [env0] at hi, h, fun b hk => ⟨hb b hk, fun i hi => by simp [env0] at hi⟩⟩
section
variable {H : Type} {enc : TypeId × Value → H} {P : Program} {w : World} {base : Nat} {spare : Nat → Bool} {held : Bool}
theorem trodAll_stays (hl : laidOutB P = true) {W W' : World} (hheap : ∀ b, b < W.heap.size → W'.heap[b]? = W.heap[b]?) {sp' : Nat → Bool} :
    ∀ {ts : List TypeId} {vs : List Value} {ds : List (DataW H)} {ps : List MemPlace}, (∀ t ∈ ts, P.readableRec t = true ∧ t < P.types.size) → DataW.TrodAll enc P W base (fun _ => true) true ts vs ds ps → (∀ p ∈ ps, p.block < W.heap.size) → (∀ p ∈ ps, sp' p.block = true) →
      DataW.TrodAll enc P W' base sp' true ts vs ds ps
  | [], _, _, _, _, h, _, _ => by
    obtain ⟨rfl, rfl, rfl⟩ := trodAll_nil h
    exact trodAll_mk0
  | t :: ts, _, _, _, ht, h, hlt, hs => by
    obtain ⟨v, vs1, d, ds1, a, b, rfl, rfl, rfl, h1, h2⟩ := trodAll_cons h
    refine trodAll_cons_mk (WideElems.Trod_stays hl (ht t (by simp)).1 (ht t (by simp)).2 h1 (fun p hp => ?_) (fun p hp => hs p (by simp [hp]))) (trodAll_stays hl hheap (fun u hu => ht u (List.mem_cons_of_mem _ hu)) h2 (fun p hp => hlt p (by simp [hp])) (fun p hp => hs p (by simp [hp])))
    have hb := hheap p.block (hlt p (by simp [hp]))
    cases p with
    | cell b o => exact cell?_of_heap hb
    | map b => exact hb
/-- **What a law's row asks of a call that returns true and leaves what it met.** -/
theorem post_true {f : Func} {s : ChangeSpec} {W W' : World} {args : Array Value} {ds gs : List (DataW H)} {before : List MemPlace} {tb : TypeId} (hl : laidOutB P = true) (hread : ∀ t ∈ f.params.toList, P.readableRec t = true ∧ t < P.types.size)
    (hres : f.resultTypes = #[tb]) (htb : P.underlying tb = some .bool) (hvars : s.vars = []) (hspec : (s.fn H ds).results = [.lit (.bool true)] ∧ (s.fn H ds).args = ds ∧ (s.fn H ds).vars = [])
    (hW : DataW.Whole enc P f.params.toList s.vars false W args.toList ds gs before) (hheap : ∀ b, b < W.heap.size → W'.heap[b]? = W.heap[b]?) (hst : Still W W') :
    s.post enc P f false true false false W args (.bool true) W' := by
  have hlt := hW.lt
  have hW0 := hW
  obtain ⟨p, q, h1, h2, rfl, _, _⟩ := hW
  rw [hvars] at h2
  obtain ⟨rfl, rfl⟩ := trodVars_none h2
  simp only [List.append_nil] at hlt
  obtain ⟨e1, e2, e3⟩ := hspec
  refine ⟨ds, [], p ++ [], [], p, [], hW0, ?_, ?_, ?_, ?_, fun h => by cases h⟩
  · rw [List.append_nil, e1, hres]
    exact trodAll_cons_mk (RowKit.shut_bool htb _) trodAll_mk0
  · rw [List.append_nil, e2]
    exact trodAll_stays hl hheap hread h1 hlt (fun p hp => by simpa using hlt p hp)
  · rw [List.append_nil, e3, hvars]; rfl
  · refine ⟨hst.1, hst.2, fun i hi => ?_⟩
    rw [hheap i hi]
    split <;> simp_all
theorem APure.law {f : FuncId} {args : List AV} {W : World} {vs : Array Value} (hc : APure P f args (.raw (.bool true))) (ht : Tabs.is W) (hb : ∀ b, Tabs.blk b → b < W.heap.size) (hr : RepL (env0 W) args vs.toList) :
    Calls P f vs W fun x W' => x = .returned (.bool true) ∧ (∀ b, b < W.heap.size → W'.heap[b]? = W.heap[b]?) ∧ Still W W' := by
  refine ((hc (env0 W) vs (env0_ok ht hb) hr).calls (fun k => FW_room none k)).mono ?_
  rintro x w' ⟨u, e', rfl, rfl, hx, hu⟩
  rw [Rep] at hu; subst hu
  exact ⟨rfl, hx.heap, hx.still⟩
end
end Go.Ab
namespace Go.Ab
variable [Tabs]
section seq
variable {c : Ctx} {ops : Array Oper} {Q : AExit → St → Prop} {rest : List Oper} {s : St} {i : Nat}
variable {d : Option Tmp} {op : Op} {t : TypeId} {p : String} {af : Array Edge}
end seq
section cond
variable {c : Ctx} {Q : AExit → St → Prop} {s : St} {x : Operand} {y z : Code}
end cond
section split
variable {c : Ctx} {ops : Array Oper} {Q : AExit → St → Prop} {s : St} {i : Nat} {l : List Oper}
end split
section draw
variable {c : Ctx} {H0 : List AObj} {ops : Array Oper} {Q : AExit → St → Prop} {m i : Nat} {s : St} {rest : List Oper}
variable {d : Option Tmp} {op : Op} {t : TypeId} {p : String} {af : Array Edge}
theorem dn0 {j u : Nat} (hj : gslot ops j = some u) (ht : Nat.blt u c.nt = true) (hb : Less (sget s.sl u) (.raw (.bool true))) (hd : dOK c.nt d = true) (k : DR c H0 ops Q m (i + 1) rest (s.put d (.raw (.tuple #[])))) :
    DR c H0 ops Q m i (⟨d, op, t, p, af, some (j, false)⟩ :: rest) s := dr_no hj ht hb rfl hd k
theorem du {j u : Nat} {want : Bool} (hj : gslot ops j = some u) (ht : Nat.blt u c.nt = true) (hb : Less (sget s.sl u) (.raw (.tuple #[]))) (hd : dOK c.nt d = true) (k : DR c H0 ops Q m (i + 1) rest (s.put d (.raw (.tuple #[])))) :
    DR c H0 ops Q m i (⟨d, op, t, p, af, some (j, want)⟩ :: rest) s := dr_no hj ht hb rfl hd k
end draw
section ex
variable {c : Ctx} {Q : AExit → St → Prop} {K : St → Prop} {s : St} {id j : Nat}
end ex
section app
variable {c : Ctx} {ops : Array Oper} {Q : AExit → St → Prop} {s : St} {i : Nat} {o : Oper} {l m : List Oper} {H0 : List AObj} {k : Nat}
end app
theorem W (n : Nat) {p q : Prop} (k : q) (h : Cnt n → (Unit → q) → p := by
  intro hc hk
  repeat (
    replace hc := Cnt.pred hc
    repeat (with_reducible (first | refine xn ?_ | refine sa ?_ | refine sa0 ?_ | refine aw_seq ?_ | refine aw_region ?_ | refine sq_nil ?_ | refine aw_skip ?_ | refine aw_block ?_ | refine bn ?_ | refine aw_exit ?_ | refine xe ?_ | refine be ?_ | refine bo ?_ | refine gn ?_ | refine ge ?_ | refine xr ?_ | refine br ?_ | refine gr ?_ | refine aw_label ?_ | refine aw_scope ?_))
    first
    | ((with_reducible apply sq_ev); exact rfl; exact EV)
    | ((with_reducible apply sn1); exact rfl; exact rfl; exact GD J; exact rfl)
    | ((with_reducible apply sn0); exact rfl; exact rfl; exact GD J; exact rfl)
    | ((with_reducible apply sq_yes); exact rfl; exact rfl; exact GD J; exact rfl; exact EV)
    | ((with_reducible apply su); exact rfl; exact rfl; exact J; exact rfl)
    | ((with_reducible apply sq_box); exact rfl; exact J; exact rfl)
    | ((with_reducible apply sq_alloc); exact rfl; exact ZeO.h)
    | ((with_reducible apply sq_store); exact rfl; exact J; exact J; exact rfl; exact rfl; exact TyF.h; exact rfl; exact rfl)
    | ((with_reducible refine aw_true ?_ ?_); exact GD J)
    | ((with_reducible refine aw_false ?_ ?_); exact GD J))
  repeat (with_reducible (first | refine xn ?_ | refine sa ?_ | refine sa0 ?_ | refine aw_seq ?_ | refine aw_region ?_ | refine sq_nil ?_ | refine aw_skip ?_ | refine aw_block ?_ | refine bn ?_ | refine aw_exit ?_ | refine xe ?_ | refine be ?_ | refine bo ?_ | refine gn ?_ | refine ge ?_ | refine xr ?_ | refine br ?_ | refine gr ?_ | refine aw_label ?_ | refine aw_scope ?_ | refine aw_ret ?_))
  exact hk ()) : p := h ⟨⟩ fun _ => k
end Go.Ab
namespace Hd
open Ni (inn)
theorem apB_ref {off a b : Int} (h0 : 0 ≤ off ∧ off ≤ 5) (h1 : 0 ≤ a ∧ a ≤ 650000) (h2 : 0 ≤ b ∧ b ≤ 650000) :
    (min (hi off a) (hi off b) < max (lo off a) (lo off b)) ↔ ((min a b + off * 1000) / 1000 < if max a b < off * 1000 then 0 else (max a b - off * 1000 + 999) / 1000) := by
  rw [hi_eq h0.1 h1.1, hi_eq h0.1 h2.1, lo_eq, lo_eq]
  split <;> omega
theorem findSome_inv {α : Type} {f : Nat → Option α} : ∀ {n : Nat} {a : α}, (List.range n).findSome? f = some a → ∃ i, i < n ∧ f i = some a ∧ ∀ j, j < i → f j = none
  | 0, a, h => by simp at h
  | n + 1, a, h => by
    rw [List.range_succ, List.findSome?_append] at h
    cases hp : (List.range n).findSome? f with
    | some b =>
      rw [hp] at h; simp only [Option.some_or, Option.some.injEq] at h; subst h
      obtain ⟨i, h1, h2, h3⟩ := findSome_inv hp
      exact ⟨i, by omega, h2, h3⟩
    | none =>
      rw [hp] at h
      rw [List.findSome?_eq_none_iff] at hp
      refine ⟨n, by omega, by simpa using h, fun j hj => hp j (List.mem_range.2 hj)⟩
theorem pairI_inv {r : Rg} {ms : List Int} {i : Nat} (h : pairI r ms i = none) : ∀ k, i < k → k < r.hides.length → mist r ms i k = false := by
  intro k hik hk
  unfold pairI at h
  rw [Option.map_eq_none_iff, List.find?_eq_none] at h
  have := h k (List.mem_range.2 hk)
  simpa [hik] using this
theorem twins_none {r : Rg} {ms : List Int} (h : twinsOf r ms = none) : ∀ i k, i < k → k < r.hides.length → mist r ms i k = false := by
  intro i k hik hk
  unfold twinsOf at h
  rw [List.findSome?_eq_none_iff] at h
  exact pairI_inv (h i (List.mem_range.2 (by omega))) k hik hk
theorem twins_all {r : Rg} {ms : List Int} (h : ∀ i k, i < k → k < r.hides.length → mist r ms i k = false) : twinsOf r ms = none := by
  unfold twinsOf
  exact List.findSome?_eq_none_iff.2 fun i _ => pairI_none fun k hik hk => h i k hik hk
theorem least_mono {a b : List Int} (top : Int) (h : ∀ y ∈ b, ∃ x ∈ a, x ≤ y) : least top a ≤ least top b := by
  rcases least_is top b with e | e
  · rw [e]; exact least_le _ _
  · obtain ⟨x, hx, hle⟩ := h _ e
    have := least_mem top a x hx
    omega
theorem apN_mono {r : Rg} {h g k : Nat} {l m : List Int} {x y : Int} (hs : List.Sublist l m) : apN r h g k l x y ≤ apN r h g k m x y := by
  unfold apN
  have := (hs.filter (apK r h g k x y)).length_le
  omega
theorem apart_mono {r : Rg} {h g k : Nat} {l m : List Int} (hs : List.Sublist l m) : apart r h g k l ≤ apart r h g k m := by
  unfold apart
  refine least_mono 6 fun z hz => ?_
  obtain ⟨x, hx, hz⟩ := List.mem_flatMap.1 hz
  obtain ⟨y, hy, rfl⟩ := List.mem_map.1 hz
  exact ⟨_, List.mem_flatMap.2 ⟨x, hx, List.mem_map.2 ⟨y, hy, rfl⟩⟩, apN_mono hs⟩
theorem mist_mono {r : Rg} {h g : Nat} {l m : List Int} (hs : List.Sublist l m) (hm : mist r m h g = true) : mist r l h g = true := by
  unfold mist at *
  rw [decide_eq_true_eq] at *
  have h1 := apart_mono (r := r) (h := h) (g := g) (k := 0) hs
  have h2 := apart_mono (r := r) (h := h) (g := g) (k := 1) hs
  omega
theorem enough_iff {r : Rg} {ms : List Int} : enough r ms = true ↔ ∀ i k, i < k → k < r.hides.length → mist r ms i k = false := by
  unfold enough
  constructor
  · intro h i k hik hk
    cases ht : twinsOf r ms with
    | none => exact twins_none ht i k hik hk
    | some p => rw [ht] at h; cases h
  · intro h; rw [twins_all h]; rfl
theorem enough_mono {r : Rg} {l m : List Int} (hs : List.Sublist l m) (h : enough r l = true) : enough r m = true := by
  rw [enough_iff] at *
  intro i k hik hk
  cases hm : mist r m i k with
  | false => rfl
  | true => have := h i k hik hk; rw [mist_mono hs hm] at this; cases this
end Hd
namespace Hd
open Ni (inn)
def befB : List Int → List Int → Bool
  | x :: a, y :: b => if x = y then befB a b else decide (x < y)
  | _, _ => false
theorem plan_none_inv {ok : List Int → Bool} : ∀ {many : Nat} {cs now : List Int}, plan ok many cs now = none → ∀ q, List.Sublist q cs → q.length = many → ok (now ++ q) = false
  | 0, cs, now, h, q, hq, hl => by
    have : q = [] := List.length_eq_zero_iff.1 hl
    subst this
    unfold plan at h
    split at h
    · cases h
    · rename_i hn; rw [List.append_nil]; simpa using hn
  | many + 1, [], now, _, q, hq, hl => by
    have := List.Sublist.length_le hq
    simp only [List.length_nil] at this; omega
  | many + 1, c :: cs, now, h, q, hq, hl => by
    unfold plan at h
    split at h
    · cases h
    · rename_i hn
      cases hq with
      | cons _ hq => exact plan_none_inv h q hq hl
      | cons_cons _ hq =>
        rename_i q'
        have := plan_none_inv hn q' hq (by simpa using hl)
        rwa [List.append_assoc] at this
theorem plan_some_inv {ok : List Int → Bool} : ∀ {many : Nat} {cs now l : List Int}, cs.Pairwise (· < ·) → plan ok many cs now = some l →
    ∃ q, l = now ++ q ∧ List.Sublist q cs ∧ q.length = many ∧ ok l = true ∧ ∀ q', List.Sublist q' cs → q'.length = many → ok (now ++ q') = true → befB q' q = false
  | 0, cs, now, l, _, h => by
    unfold plan at h
    split at h
    · rename_i hn
      injection h with h; subst h
      exact ⟨[], by simp, List.nil_sublist _, rfl, hn, fun q' _ h2 _ => by have := List.length_eq_zero_iff.1 h2; subst this; rfl⟩
    · cases h
  | many + 1, [], now, l, _, h => by unfold plan at h; cases h
  | many + 1, c :: cs, now, l, hp, h => by
    have hp' := List.pairwise_cons.1 hp
    unfold plan at h
    split at h
    · rename_i l' hn
      injection h with h; subst h
      obtain ⟨q, h1, h2, h3, h4, h5⟩ := plan_some_inv hp'.2 hn
      refine ⟨c :: q, by rw [h1, List.append_assoc]; rfl, .cons_cons _ h2, by rw [List.length_cons, h3], h4, fun q' k1 k2 k3 => ?_⟩
      cases k1 with
      | cons _ k1 =>
        cases q' with
        | nil => cases k2
        | cons x q' =>
          have : c < x := hp'.1 x (k1.subset (by simp))
          unfold befB
          rw [if_neg (by omega)]; simp; omega
      | cons_cons _ k1 =>
        rename_i q''
        unfold befB
        rw [if_pos rfl]
        exact h5 q'' k1 (by simpa using k2) (by rwa [List.append_assoc])
    · rename_i hn
      obtain ⟨q, h1, h2, h3, h4, h5⟩ := plan_some_inv hp'.2 h
      refine ⟨q, h1, .cons _ h2, h3, h4, fun q' k1 k2 k3 => ?_⟩
      cases k1 with
      | cons _ k1 => exact h5 q' k1 k2 k3
      | cons_cons _ k1 =>
        rename_i q''
        have := plan_none_inv hn q'' k1 (by simpa using k2)
        rw [List.append_assoc] at this
        rw [show now ++ c :: q'' = now ++ ([c] ++ q'') from rfl, this] at k3; cases k3
theorem sub_rising : ∀ {l m : List Int}, l.Pairwise (· < ·) → m.Pairwise (· < ·) → (∀ n ∈ l, n ∈ m) → List.Sublist l m
  | [], m, _, _, _ => List.nil_sublist _
  | x :: l, [], _, _, h => by have := h x (by simp); cases this
  | x :: l, y :: m, hl, hm, h => by
    have hl' := List.pairwise_cons.1 hl
    have hm' := List.pairwise_cons.1 hm
    rcases List.mem_cons.1 (h x (by simp)) with e | e
    · subst e
      refine .cons_cons _ (sub_rising hl'.2 hm'.2 fun n hn => ?_)
      rcases List.mem_cons.1 (h n (by simp [hn])) with e | e
      · have := hl'.1 n hn; omega
      · exact e
    · refine .cons _ (sub_rising hl hm'.2 fun n hn => ?_)
      have hyx := hm'.1 x e
      rcases List.mem_cons.1 (h n hn) with e2 | e2
      · rcases List.mem_cons.1 hn with e3 | e3
        · omega
        · have := hl'.1 n e3; omega
      · exact e2
theorem every_rising (n : Nat) : (every n).Pairwise (· < ·) := by
  unfold every
  rw [List.pairwise_map]
  exact List.pairwise_lt_range.imp fun h => by omega
theorem mem_every {n : Nat} {x : Int} : x ∈ every n ↔ 0 ≤ x ∧ x < n := by
  unfold every
  rw [List.mem_map]
  constructor
  · rintro ⟨m, hm, rfl⟩; rw [List.mem_range] at hm; omega
  · rintro ⟨h1, h2⟩; exact ⟨x.toNat, by rw [List.mem_range]; omega, by omega⟩
def msOK (n : Nat) (l : List Int) : Prop := l.Pairwise (· < ·) ∧ ∀ x ∈ l, 0 ≤ x ∧ x < n
theorem ms_sub {n : Nat} {l : List Int} (h : msOK n l) : List.Sublist l (every n) := sub_rising h.1 (every_rising n) fun x hx => mem_every.2 (h.2 x hx)
theorem sub_ms {n : Nat} {l : List Int} (h : List.Sublist l (every n)) : msOK n l := ⟨(every_rising n).sublist h, fun x hx => mem_every.1 (h.subset hx)⟩
theorem planOf_some {r : Rg} {p : List Int} (h : planOf r = some p) :
    msOK r.kinds.length p ∧ enough r p = true ∧ ∀ q, msOK r.kinds.length q → enough r q = true → p.length < q.length ∨ (p.length = q.length ∧ befB q p = false) := by
  unfold planOf at h
  obtain ⟨m, hm, h1, h2⟩ := findSome_inv h
  obtain ⟨q, e1, e2, e3, e4, e5⟩ := plan_some_inv (every_rising _) h1
  rw [List.nil_append] at e1; subst e1
  refine ⟨sub_ms e2, e4, fun q hq ho => ?_⟩
  by_cases hlt : q.length < m
  · have := plan_none_inv (h2 _ hlt) q (ms_sub hq) rfl
    rw [List.nil_append, ho] at this; cases this
  · by_cases he : q.length = m
    · exact .inr ⟨by omega, e5 q (ms_sub hq) he (by rwa [List.nil_append])⟩
    · exact .inl (by omega)
theorem planOf_none {r : Rg} (h : planOf r = none) : ∀ q, msOK r.kinds.length q → enough r q = false := by
  unfold planOf at h
  rw [List.findSome?_eq_none_iff] at h
  intro q hq
  have hl := (ms_sub hq).length_le
  have e : (every r.kinds.length).length = r.kinds.length := by simp [every]
  have := plan_none_inv (h q.length (List.mem_range.2 (by omega))) q (ms_sub hq) rfl
  rwa [List.nil_append] at this
theorem planOf_iff (r : Rg) : enough r (every r.kinds.length) = (planOf r).isSome := by
  cases h : planOf r with
  | none => rw [planOf_none h _ (sub_ms (List.Sublist.refl _))]; rfl
  | some p =>
    obtain ⟨h1, h2, _⟩ := planOf_some h
    rw [enough_mono (ms_sub h1) h2]; rfl
end Hd
namespace Go.Proofs.YtjpokekbjmdgmaaGreatDoor
open Go Go.Ab Ni Hd
theorem rin_pure (n lo hi : Int) : APure Tryz.prog 74 [I n, I lo, I hi] (B (inn n lo hi)) := by
  refine ap Tryz.func74 (fun e0 he0 => ?_)
  refine wz 5 ?_
  refine sz 10 (fun g1 g1' => ?_) (fun g1 g1' => ?_)
  ·refine wz 5 ?_
   exact rz rfl (Less.eq (by simp [inn, *]))
  refine wz 5 ?_
  exact rz rfl (Less.eq (by simp [inn, *]))
end Go.Proofs.YtjpokekbjmdgmaaGreatDoor
namespace Go.Proofs.YtjpokekbjmdgmaaGreatDoor
open Go Go.Ab Ni Hd
def okM (r : Rg) (l : List Int) : Bool := decide (∀ i, (hi : i < l.length) → msIn r l[i] = true ∧ (0 < i → l[i - 1] < l[i]))
theorem okM_no {r : Rg} {l : List Int} {i : Nat} (hi : i < l.length) (h : ¬ (msIn r l[i] = true ∧ (0 < i → l[i - 1] < l[i]))) : okM r l = false := by
  unfold okM; rw [decide_eq_false_iff_not]; exact fun q => h (q i hi)
theorem okM_yes {r : Rg} {l : List Int} (h : ∀ i, (hi : i < l.length) → msIn r l[i] = true ∧ (0 < i → l[i - 1] < l[i])) : okM r l = true := by unfold okM; exact decide_eq_true h
theorem okM_p {r : Rg} {l : List Int} (h : okM r l = true) : msP r l := fun m hm => by
  obtain ⟨i, hi, rfl⟩ := List.getElem_of_mem hm
  unfold okM at h; rw [decide_eq_true_eq] at h
  exact msIn_iff.1 (h i hi).1
theorem ttwins_bad (r : Rg) (hk : r.kinds.length ≤ 1000000) (hh : r.hides.length ≤ 1000000) (hw : ∀ h ∈ r.hides, h.length ≤ 1000000) (ho : rgOK r = false) : APure Tryz.prog 66 [rgA r] (.tup [I 0, I 0, I 2]) := by
  refine ap Tryz.func66 (fun e0 he0 => ?_)
  refine wz 5 ?_
  refine kz az (isregister_pure r hk hh hw) ?_
  refine wz 1 ?_
  refine iz (fun c_10 c_10' => ?_) (fun c_10 c_10' => ?_)
  ·refine wz 3 ?_
   exact retQ_pure (v := .tup [.raw _, .raw _, .raw _]) rfl rfl (less_tup ⟨jz, jz, jz, trivial⟩)
  exfalso
  simp_all
theorem ttwins_no {r : Rg} (hk : r.kinds.length ≤ 1000000) (hh : r.hides.length ≤ 1000000) (hw : ∀ h ∈ r.hides, h.length ≤ 1000000) (ho : rgOK r = true) (he : enough r (every r.kinds.length) = true) : APure Tryz.prog 66 [rgA r] (.tup [I 0, I 0, I 5]) := by
  refine ap Tryz.func66 (fun e0 he0 => ?_)
  refine vz 4 ?_
  refine sq_nil ?_
  refine aw_seq ?_
  refine aw_seq ?_
  have gB := rgOK_B ho
  refine wz 1 ?_
  refine kz az (isregister_pure r hk hh hw) ?_
  refine wz 1 ?_
  refine iz (fun c_10 c_10' => ?_) (fun c_10 c_10' => ?_)
  ·exfalso
   simp_all
  refine wz 0 ?_
  refine aw_draw 11 mo (by kernel_rfl) ?_
  refine dz 2 ?_
  refine dkz az (every_pure r hk) ?_
  refine dkz az (twins_pure gB (every_p r) (by rw [every_len]; omega)) ?_
  refine dz 7 ?_
  refine wz 2 ?_
  refine iz (fun c_20 c_20' => ?_) (fun c_20 c_20' => ?_)
  ·refine wz 3 ?_
   exact retQ_pure (v := .tup [.raw _, .raw _, .raw _]) rfl rfl (less_tup ⟨jz, jz, jz, trivial⟩)
  exfalso
  simp_all
theorem areM_pure (r : Rg) (l : List Int) (hk : r.kinds.length ≤ 1000000) (hl : l.length ≤ 1000000) : APure Tryz.prog 126 [rgA r, ints l] (B (okM r l)) := by
  refine ap Tryz.func126 (fun e0 he0 => ?_)
  refine wz 5 ?_
  refine aw_loopk (ι := { k : Nat // k ≤ l.length ∧ ∀ i, (hi : i < l.length) → i < k → msIn r l[i] = true ∧ (0 < i → l[i - 1] < l[i]) }) [1, 2, 7, 8] (fun i => [(9, I i.1)]) (fun H i => H) (fun i => l.length - i.1) (⟨0, Nat.zero_le _, by omega⟩) ⟨jz, jz, jz, jz, jz, trivial⟩ rfl ?_
  rintro ⟨k, hk1, hok⟩
  refine nz ?_
  refine wz 1 ?_
  refine iz (fun c_10 c_10' => ?_) (fun c_10 c_10' => ?_)
  ·have hkl : k < l.length := by omega
   refine wz 7 ?_
   refine kz az (ismeasure_pure r _ hk) ?_
   refine wz 2 ?_
   refine sz 18 (fun g4_4 g4_4' => ?_) (fun g4_4 g4_4' => ?_)
   ·have hms : msIn r l[k] = false := by simpa using g4_4
    have hno : okM r l = false := okM_no hkl (fun q => by rw [hms] at q; exact Bool.noConfusion q.1)
    refine wz 14 ?_
    exact rz rfl (Less.eq (by rw [hno]))
   have hms : msIn r l[k] = true := by simpa using g4_4
   refine wz 3 ?_
   refine sz 21 (fun g4_7 g4_7' => ?_) (fun g4_7 g4_7' => ?_)
   ·refine wz 4 ?_
    refine sq_yes rfl rfl (less_b g4_7) rfl (ev_index_map (k := k - 1) sl28.h jz jz (by omega) (by omega)) ?_
    refine wz 4 ?_
    refine iz (fun c_30 c_30' => ?_) (fun c_30 c_30' => ?_)
    ·have hno : okM r l = false := okM_no hkl (fun q => by have h5 := q.2 (by omega); have h6 := of_decide_eq_true c_30; omega)
     refine wz 1 ?_
     exact rz rfl (Less.eq (by rw [hno]))
    have hst : msIn r l[k] = true ∧ (0 < k → l[k - 1] < l[k]) := ⟨hms, fun q => by have := of_decide_eq_false c_30; omega⟩
    refine wz 2 ?_
    exact ⟨⟨k + 1, by omega, fun i hi q => by rcases Nat.lt_or_ge i k with q2 | q2; exact hok i hi q2; (obtain rfl : i = k := by omega); exact hst⟩, by simp only; omega, Sub.slots ⟨jz, jz, jz, jz, jz, trivial⟩⟩
   have hst : msIn r l[k] = true ∧ (0 < k → l[k - 1] < l[k]) := ⟨hms, fun q => by omega⟩
   refine wz 12 ?_
   exact ⟨⟨k + 1, by omega, fun i hi q => by rcases Nat.lt_or_ge i k with q2 | q2; exact hok i hi q2; (obtain rfl : i = k := by omega); exact hst⟩, by simp only; omega, Sub.slots ⟨jz, jz, jz, jz, jz, trivial⟩⟩
  obtain rfl : k = l.length := by omega
  have hall := okM_yes fun i hi => hok i hi hi
  refine wz 1 ?_
  exact rz rfl (Less.eq (by rw [hall]))
theorem enough_bad (r : Rg) (l : List Int) (hk : r.kinds.length ≤ 1000000) (hh : r.hides.length ≤ 1000000) (hw : ∀ h ∈ r.hides, h.length ≤ 1000000) (hl : l.length ≤ 1000000) (ho : (rgOK r && okM r l) = false) : APure Tryz.prog 67 [rgA r, ints l] (.tup [B false, I 2]) := by
  refine ap Tryz.func67 (fun e0 he0 => ?_)
  refine wz 4 ?_
  refine kz az (isregister_pure r hk hh hw) ?_
  refine wz 2 ?_
  refine sz 12 (fun g1_3 g1_3' => ?_) (fun g1_3 g1_3' => ?_)
  ·refine wz 8 ?_
   exact retQ_pure (v := .tup [.raw _, .raw _]) rfl rfl (less_tup ⟨jz, jz, trivial⟩)
  refine wz 2 ?_
  refine ky az (areM_pure r l hk hl) ?_
  refine wz 2 ?_
  refine iz (fun c_17 c_17' => ?_) (fun c_17 c_17' => ?_)
  ·refine wz 2 ?_
   exact retQ_pure (v := .tup [.raw _, .raw _]) rfl rfl (less_tup ⟨jz, jz, trivial⟩)
  exfalso
  simp_all
theorem enough_ok {r : Rg} {l : List Int} (hk : r.kinds.length ≤ 1000000) (hh : r.hides.length ≤ 1000000) (hw : ∀ h ∈ r.hides, h.length ≤ 1000000) (hl : l.length ≤ 1000000) (ho : (rgOK r && okM r l) = true) : APure Tryz.prog 67 [rgA r, ints l] (.tup [B (enough r l), I 0]) := by
  refine ap Tryz.func67 (fun e0 he0 => ?_)
  refine vz 3 ?_
  refine sq_nil ?_
  refine aw_seq ?_
  refine aw_seq ?_
  obtain ⟨hro, hom⟩ : rgOK r = true ∧ okM r l = true := by simpa using ho
  have gB := rgOK_B hro
  refine wz 1 ?_
  refine kz az (isregister_pure r hk hh hw) ?_
  refine wz 2 ?_
  refine sz 12 (fun g1_3 g1_3' => ?_) (fun g1_3 g1_3' => ?_)
  ·exfalso
   simp_all
  refine wz 2 ?_
  refine ky az (areM_pure r l hk hl) ?_
  refine wz 2 ?_
  refine iz (fun c_17 c_17' => ?_) (fun c_17 c_17' => ?_)
  ·exfalso
   simp_all
  refine wz 2 ?_
  refine kz az (twins_pure gB (okM_p hom) hl) ?_
  refine wz 11 ?_
  exact retQ_pure (v := .tup [.raw _, .raw _]) rfl rfl (less_tup ⟨Less.eq (by rw [Bool.not_not]), jz, trivial⟩)
end Go.Proofs.YtjpokekbjmdgmaaGreatDoor
namespace Go.Proofs.YtjpokekbjmdgmaaGreatDoor
open Go Go.Ab Ni Hd
section app
variable {c : Ctx} {ops : Array Oper} {Q : AExit → St → Prop} {rest : List Oper} {i : Nat} {sl : List (Nat × AV)} {df : List ADef}
variable {d : Option Tmp} {t : TypeId} {pp : String} {af : Array Edge}
end app
theorem plan_bad (r : Rg) (hk : r.kinds.length ≤ 1000000) (hh : r.hides.length ≤ 1000000) (hw : ∀ h ∈ r.hides, h.length ≤ 1000000) (ho : rgOK r = false) : APure Tryz.prog 68 [rgA r] (.tup [ints [], I 2]) := by
  refine ap Tryz.func68 (fun e0 he0 => ?_)
  refine wz 4 ?_
  refine kz az (isregister_pure r hk hh hw) ?_
  refine wz 1 ?_
  refine iz (fun c_9 c_9' => ?_) (fun c_9 c_9' => ?_)
  ·refine wz 2 ?_
   exact retQ_pure (v := .tup [.raw _, .raw _]) rfl rfl (less_tup ⟨less_nil 1, jz, trivial⟩)
  exfalso
  simp_all
theorem plan_no {r : Rg} (hk : r.kinds.length ≤ 1000000) (hh : r.hides.length ≤ 1000000) (hw : ∀ h ∈ r.hides, h.length ≤ 1000000) (ho : rgOK r = true) (hpl : planOf r = none) : APure Tryz.prog 68 [rgA r] (.tup [ints [], I 5]) := by
  refine ap Tryz.func68 (fun e0 he0 => ?_)
  refine vz 3 ?_
  refine sq_nil ?_
  refine aw_seq ?_
  refine aw_seq ?_
  have gB := rgOK_B ho
  have hnk := gB.nk
  refine wz 1 ?_
  refine kz az (isregister_pure r hk hh hw) ?_
  refine wz 1 ?_
  refine iz (fun c_9 c_9' => ?_) (fun c_9 c_9' => ?_)
  ·exfalso
   simp_all
  refine vz 2 ?_
  refine sq_nil ?_
  refine aw_seq ?_
  refine aw_sub (sub_iptrK [4, 5] 1 (j := 0) (l := rgC r) rfl rfl) ?_
  refine nz ?_
  refine wz 7 ?_
  refine aw_loopk (ι := { g : Nat × AV × List AObj // g.1 ≤ r.kinds.length + 1 ∧ NowI g.2.2 g.2.1 [] ∧ ∀ m, m < g.1 → plan (enough r) m (every r.kinds.length) [] = none }) [4, 5, 14] (fun g => [(15, I g.1.1)]) (fun H g => plH r g.1.2.1 g.1.2.2) (fun g => r.kinds.length + 1 - g.1.1) (⟨(0, .raw (.slice none 0 0), []), Nat.zero_le _, .inl ⟨rfl, rfl⟩, by omega⟩) ⟨jz, jz, jz, jz, trivial⟩ rfl ?_
  rintro ⟨⟨m, a, G⟩, hm, hnow, hno⟩
  refine nz ?_
  dsimp only at hm hnow hno
  refine wz 1 ?_
  refine iz (fun c_16 c_16' => ?_) (fun c_16 c_16' => ?_)
  ·have hml : m < r.kinds.length + 1 := by omega
   refine wz 4 ?_
   refine sq_call (f := 127) (first := []) (cap := [.iptr (rgC r), .ptr 1 0, .ptr 2 0]) (args := [I ((0 : Nat) : Int), I m, .iptr (rgC r), .ptr 1 0, .ptr 2 0]) rfl en127.h jz ⟨jz, jz, jz, jz, jz, trivial⟩ (search_call gB m [] 0 a G (by intro n hn; cases hn) (by simp; omega) (Nat.zero_le _) hnow) ?_ (by rintro v H' ⟨b, a', G', h, _⟩; cases h)
   rintro _ _ ⟨b, a2, G2, h, rfl, hT, hF⟩; cases h
   refine wz 0 ?_
   refine iz (fun c_20 c_20' => ?_) (fun c_20 c_20' => ?_)
   ·obtain ⟨l2, hp, hn2⟩ := hT (by simpa using c_20)
    rw [List.drop_zero] at hp
    exfalso
    have hpl2 : planOf r = some l2 := findSome_range hml hp hno
    rw [hpl2] at hpl; cases hpl
   rw [List.drop_zero] at hF
   refine vz 2 ?_
   refine sq_nil ?_
   refine ⟨⟨(m + 1, a2, G2), by simp only; omega, (hF (by simpa using c_20)).2, fun q hq => (by by_cases e : q = m; (subst e; exact (hF (by simpa using c_20)).1); exact hno q (by simp only at hq; omega))⟩, by simp only; omega, ?_⟩
   refine Sub.slots ?_
   exact ⟨jz, jz, jz, jz, trivial⟩
  obtain rfl : m = r.kinds.length + 1 := by omega
  refine wz 2 ?_
  exact retQ_pure (v := .tup [.raw _, .raw _]) rfl rfl (less_tup ⟨less_nil 1, jz, trivial⟩)
end Go.Proofs.YtjpokekbjmdgmaaGreatDoor
namespace Go.Proofs.YtjpokekbjmdgmaaGreatDoor
open Go Go.Ab Ni Hd
def shB (r : Rg) : Bool := decide ((r.kinds.length ≤ 8 ∧ r.hides.length ≤ 8) ∧ ∀ i, (hi : i < r.hides.length) → i < 9 → r.hides[i].length ≤ 10)
theorem shB_fin {r : Rg} (h3 : ∀ i, (hi : i < r.hides.length) → i < 9 → r.hides[i].length ≤ 10) : shB r = (decide (r.kinds.length ≤ 8) && decide (r.hides.length ≤ 8)) := by
  rw [Bool.eq_iff_iff]; unfold shB; simp only [decide_eq_true_eq, Bool.and_eq_true]
  exact ⟨fun h => h.1, fun h => ⟨h, h3⟩⟩
theorem shB_row {r : Rg} {i : Nat} (hi : i < r.hides.length) (h9 : i < 9) (h : ¬ r.hides[i].length ≤ 10) : shB r = false := decide_eq_false fun q => h (q.2 i hi h9)
theorem shB_len {r : Rg} (h : shB r = true) : r.kinds.length ≤ 1000000 ∧ r.hides.length ≤ 1000000 ∧ (∀ h ∈ r.hides, h.length ≤ 1000000) := by
  have q := of_decide_eq_true h
  refine ⟨by omega, by omega, fun x hx => ?_⟩
  obtain ⟨i, hi, rfl⟩ := List.getElem_of_mem hx
  have := q.2 i hi (by omega); omega
theorem rg_kind {r : Rg} {i : Nat} (hi : i < r.kinds.length) (h : kdOK r.kinds[i] = false) : rgOK r = false := by
  have e : r.kinds.all kdOK = false := by rw [List.all_eq_false]; exact ⟨_, List.getElem_mem hi, by rw [h]; simp⟩
  unfold rgOK; rw [e]; simp
theorem rg_hide {r : Rg} {i : Nat} (hi : i < r.hides.length) (h : hdOK r.kinds.length r.hides[i] = false) : rgOK r = false := by
  have e : r.hides.all (hdOK r.kinds.length) = false := by rw [List.all_eq_false]; exact ⟨_, List.getElem_mem hi, by rw [h]; simp⟩
  unfold rgOK; rw [e]; simp
theorem hd_len {w : Nat} {h : List Int} (e : h.length ≠ w) : hdOK w h = false := by unfold hdOK; rw [decide_eq_false e]; rfl
theorem hd_num {w : Nat} {h : List Int} {j : Nat} (hj : j < h.length) (e : inn h[j] 1 500 = false) : hdOK w h = false := by
  have q : (h.all fun n => inn n 1 500) = false := by rw [List.all_eq_false]; exact ⟨_, List.getElem_mem hj, by rw [e]; simp⟩
  unfold hdOK; rw [q]; simp
theorem hd_yes {w : Nat} {h : List Int} (e : h.length = w) (k : ∀ j, (hj : j < h.length) → inn h[j] 1 500 = true) : hdOK w h = true := by
  unfold hdOK; rw [decide_eq_true e, List.all_eq_true.2 fun x hx => by obtain ⟨j, hj, rfl⟩ := List.getElem_of_mem hx; exact k j hj]; rfl
theorem all_of {α : Type} {q : α → Bool} {l : List α} (h : ∀ j, (hj : j < l.length) → q l[j] = true) : l.all q = true := List.all_eq_true.2 fun x hx => by obtain ⟨j, hj, rfl⟩ := List.getElem_of_mem hx; exact h j hj
theorem fd_bad {r : Rg} {f : List Int} {i : Nat} (hi : i < f.length) (h : inn f[i] (-1) 1000 = false) : fdOK r f = false := by
  have e : (f.all fun n => inn n (-1) 1000) = false := by rw [List.all_eq_false]; exact ⟨_, List.getElem_mem hi, by rw [h]; simp⟩
  unfold fdOK; rw [e]; simp
theorem short_pure (r : Rg) : APure Tryz.prog 20 [rgA r] (B (shB r)) := by
  refine ap Tryz.func20 (fun e0 he0 => ?_)
  refine wz 3 ?_
  refine aw_loopk (ι := { k : Nat // k ≤ r.hides.length ∧ k ≤ 9 ∧ ∀ i, (hi : i < r.hides.length) → i < k → r.hides[i].length ≤ 10 }) [1] (fun i => [(3, I i.1)]) (fun H i => H) (fun i => r.hides.length - i.1) (⟨0, Nat.zero_le _, by omega, by omega⟩) ⟨jz, jz, trivial⟩ rfl ?_
  rintro ⟨k, hk, hk9, hok⟩
  refine nz ?_
  refine wz 6 ?_
  refine sz 9 (fun g2_5 g2_5' => ?_) (fun g2_5 g2_5' => ?_)
  ·have hkl : k < r.hides.length := by omega
   refine wz 3 ?_
   refine iz (fun c_12 c_12' => ?_) (fun c_12 c_12' => ?_)
   ·have hk9b : k < 9 := by have := of_decide_eq_true c_12; omega
    refine wz 7 ?_
    refine iz (fun c_21 c_21' => ?_) (fun c_21 c_21' => ?_)
    ·have hbad := shB_row hkl hk9b (by omega)
     refine wz 1 ?_
     exact rz rfl (Less.eq (by rw [hbad]))
    refine wz 3 ?_
    exact ⟨⟨k + 1, by omega, by omega, fun i hi h => (by by_cases e : i = k; (subst e; omega); exact hok i hi (by omega))⟩, by simp only; omega, Sub.slots ⟨jz, jz, trivial⟩⟩
   refine wz 5 ?_
   refine sz 26 (fun g6_4 g6_4' => ?_) (fun g6_4 g6_4' => ?_)
   ·refine wz 6 ?_
    exact rz rfl (Less.eq (congrArg B (by have h9 := of_decide_eq_false c_12; rw [shB_fin (fun i hi h8 => hok i hi (by omega)), Bool.eq_iff_iff]; simp; omega)))
   refine wz 6 ?_
   exact rz rfl (Less.eq (congrArg B (by have h9 := of_decide_eq_false c_12; rw [shB_fin (fun i hi h8 => hok i hi (by omega)), Bool.eq_iff_iff]; simp; omega)))
  obtain rfl : k = r.hides.length := by omega
  refine wz 9 ?_
  refine sz 26 (fun g6_4 g6_4' => ?_) (fun g6_4 g6_4' => ?_)
  ·refine wz 6 ?_
   exact rz rfl (Less.eq (congrArg B (by rw [shB_fin (fun i hi _ => hok i hi hi), Bool.eq_iff_iff]; simp; omega)))
  refine wz 6 ?_
  exact rz rfl (Less.eq (congrArg B (by rw [shB_fin (fun i hi _ => hok i hi hi), Bool.eq_iff_iff]; simp; omega)))
theorem rspan_pure (a b : Int) (ha : -1000000 ≤ a ∧ a ≤ 1000000 ∨ True) : APure Tryz.prog 75 [.agg [I a, I b]] (B (spOK a b)) := by
  refine ap Tryz.func75 (fun e0 he0 => ?_)
  refine vz 2 ?_
  refine sq_nil ?_
  refine aw_seq ?_
  have hin : ∀ x lo hi : Int, inn x lo hi = true ↔ lo ≤ x ∧ x ≤ hi := fun x lo hi => by unfold inn; simp
  refine wz 2 ?_
  refine kz az (rin_pure _ _ _) ?_
  refine wz 1 ?_
  refine sz 6 (fun g1_3 g1_3' => ?_) (fun g1_3 g1_3' => ?_)
  ·have h1 := (hin _ _ _).1 g1_3
   refine wz 4 ?_
   refine ky az (rin_pure _ _ _) ?_
   refine wz 2 ?_
   refine sz 13 (fun g1_10 g1_10' => ?_) (fun g1_10 g1_10' => ?_)
   ·have h2 := (hin _ _ _).1 g1_10
    refine wz 8 ?_
    exact rz rfl (Less.eq (by unfold spOK; simp [*]))
   refine wz 8 ?_
   exact rz rfl (Less.eq (by unfold spOK; simp [*]))
  refine wz 15 ?_
  exact rz rfl (Less.eq (by unfold spOK; simp [*]))
theorem register_pure (r : Rg) (hk : r.kinds.length ≤ 1000000) (hh : r.hides.length ≤ 1000000) (hw : ∀ h ∈ r.hides, h.length ≤ 1000000) : APure Tryz.prog 21 [rgA r] (B (rgOK r)) := by
  refine ap Tryz.func21 (fun e0 he0 => ?_)
  refine wz 5 ?_
  refine kz az (rin_pure _ _ _) ?_
  refine wz 2 ?_
  refine sz 11 (fun g1_5 g1_5' => ?_) (fun g1_5 g1_5' => ?_)
  ·refine wz 8 ?_
   exact rz rfl (Less.eq (by unfold rgOK; simp_all))
  refine wz 3 ?_
  refine ky az (rin_pure _ _ _) ?_
  refine wz 2 ?_
  refine iz (fun c_17 c_17' => ?_) (fun c_17 c_17' => ?_)
  ·refine wz 1 ?_
   exact rz rfl (Less.eq (by unfold rgOK; simp_all))
  refine wz 1 ?_
  refine aw_loopk (ι := { k : Nat // k ≤ r.kinds.length ∧ ∀ i, (hi : i < r.kinds.length) → i < k → kdOK r.kinds[i] = true }) [1] (fun i => [(3, I i.1)]) (fun H i => H) (fun i => r.kinds.length - i.1) (⟨0, Nat.zero_le _, by omega⟩) ⟨jz, jz, trivial⟩ rfl ?_
  rintro ⟨k, hkk, hok⟩
  refine nz ?_
  refine wz 5 ?_
  refine iz (fun c_22 c_22' => ?_) (fun c_22 c_22' => ?_)
  ·have hkl : k < r.kinds.length := by omega
   refine wz 7 ?_
   refine sz 31 (fun g6_6 g6_6' => ?_) (fun g6_6 g6_6' => ?_)
   ·refine wz 7 ?_
    refine iz (fun c_38 c_38' => ?_) (fun c_38 c_38' => ?_)
    ·have hbad := rg_kind hkl (by unfold kdOK; have h5 := of_decide_eq_true c_38; exact decide_eq_false (by omega))
     refine wz 1 ?_
     exact rz rfl (Less.eq (by rw [hbad]))
    have hkd : kdOK r.kinds[k] = true := by unfold kdOK; have h5 := of_decide_eq_false c_38; exact decide_eq_true (by omega)
    refine wz 3 ?_
    exact ⟨⟨k + 1, by omega, fun i hi h => (by by_cases e : i = k; (subst e; exact hkd); exact hok i hi (by omega))⟩, by simp only; omega, Sub.slots ⟨jz, jz, trivial⟩⟩
   have hkd : kdOK r.kinds[k] = true := by unfold kdOK; exact decide_eq_true (by omega)
   refine wz 11 ?_
   exact ⟨⟨k + 1, by omega, fun i hi h => (by by_cases e : i = k; (subst e; exact hkd); exact hok i hi (by omega))⟩, by simp only; omega, Sub.slots ⟨jz, jz, trivial⟩⟩
  obtain rfl : k = r.kinds.length := by omega
  have hall1 : r.kinds.all kdOK = true := all_of fun j hj => hok j hj hj
  refine wz 1 ?_
  refine aw_loopk (ι := { k : Nat // k ≤ r.hides.length ∧ ∀ i, (hi : i < r.hides.length) → i < k → hdOK r.kinds.length r.hides[i] = true }) [1] (fun i => [(4, I i.1)]) (fun H i => H) (fun i => r.hides.length - i.1) (⟨0, Nat.zero_le _, by omega⟩) ⟨jz, jz, trivial⟩ rfl ?_
  rintro ⟨k, hkh, hok2⟩
  refine nz ?_
  refine wz 5 ?_
  refine iz (fun c_43 c_43' => ?_) (fun c_43 c_43' => ?_)
  ·have hhl : k < r.hides.length := by omega
   have hwl := hw _ (List.getElem_mem hhl)
   refine wz 0 ?_
   refine aw_draw 10 mo (by kernel_rfl) ?_
   refine dz 10 ?_
   refine wz 0 ?_
   refine iz (fun c_55 c_55' => ?_) (fun c_55 c_55' => ?_)
   ·have hbad := rg_hide hhl (hd_len (by omega))
    refine wz 1 ?_
    exact rz rfl (Less.eq (by rw [hbad]))
   have hle : r.hides[k].length = r.kinds.length := by omega
   refine wz 1 ?_
   refine aw_loopk (ι := { j : Nat // j ≤ r.hides[k].length ∧ ∀ i, (hi : i < r.hides[k].length) → i < j → inn r.hides[k][i] 1 500 = true }) [1, 4] (fun u => [(5, I u.1)]) (fun H u => H) (fun u => r.hides[k].length - u.1) (⟨0, Nat.zero_le _, by omega⟩) ⟨jz, jz, jz, trivial⟩ rfl ?_
   rintro ⟨j, hj, hok3⟩
   refine nz ?_
   refine wz 8 ?_
   refine iz (fun c_63 c_63' => ?_) (fun c_63 c_63' => ?_)
   ·have hjl : j < r.hides[k].length := by omega
    refine wz 8 ?_
    refine kz az (rin_pure _ _ _) ?_
    refine wz 1 ?_
    refine iz (fun c_75 c_75' => ?_) (fun c_75 c_75' => ?_)
    ·have hbad := rg_hide hhl (hd_num hjl (by simpa using c_75))
     refine wz 1 ?_
     exact rz rfl (Less.eq (by rw [hbad]))
    have hin : inn r.hides[k][j] 1 500 = true := by simpa using c_75
    refine wz 3 ?_
    exact ⟨⟨j + 1, by omega, fun i hi h => (by by_cases e : i = j; (subst e; exact hin); exact hok3 i hi (by omega))⟩, by simp only; omega, Sub.slots ⟨jz, jz, jz, trivial⟩⟩
   obtain rfl : j = r.hides[k].length := by omega
   refine wz 3 ?_
   exact ⟨⟨k + 1, by omega, fun i hi h => (by by_cases e : i = k; (subst e; exact hd_yes hle fun j hj => hok3 j hj hj); exact hok2 i hi (by omega))⟩, by simp only; omega, Sub.slots ⟨jz, jz, trivial⟩⟩
  obtain rfl : k = r.hides.length := by omega
  have hall2 : r.hides.all (hdOK r.kinds.length) = true := all_of fun j hj => hok2 j hj hj
  refine wz 2 ?_
  refine kz az (rspan_pure _ _ (.inr trivial)) ?_
  refine wz 1 ?_
  refine sz 79 (fun g18_3 g18_3' => ?_) (fun g18_3 g18_3' => ?_)
  ·refine wz 2 ?_
   refine ky az (rspan_pure _ _ (.inr trivial)) ?_
   refine wz 2 ?_
   refine sz 84 (fun g18_8 g18_8' => ?_) (fun g18_8 g18_8' => ?_)
   ·refine wz 2 ?_
    refine ky az (rin_pure _ _ _) ?_
    refine wz 2 ?_
    refine sz 89 (fun g18_13 g18_13' => ?_) (fun g18_13 g18_13' => ?_)
    ·refine wz 2 ?_
     refine ky az (rin_pure _ _ _) ?_
     refine wz 2 ?_
     exact rz rfl (Less.eq (by unfold rgOK; rw [hall1, hall2]; simp_all))
    refine wz 5 ?_
    exact rz rfl (Less.eq (by unfold rgOK; rw [hall1, hall2]; simp_all))
   refine wz 10 ?_
   exact rz rfl (Less.eq (by unfold rgOK; rw [hall1, hall2]; simp_all))
  refine wz 15 ?_
  exact rz rfl (Less.eq (by unfold rgOK; rw [hall1, hall2]; simp_all))
end Go.Proofs.YtjpokekbjmdgmaaGreatDoor
namespace Go.Proofs.YtjpokekbjmdgmaaGreatDoor
open Go Go.Ab Ni Hd
theorem short_t {r : Rg} (h : shB r = true) : APure Tryz.prog 20 [rgA r] (B true) := by have q := short_pure r; rw [h] at q; exact q
theorem short_f {r : Rg} (h : shB r = false) : APure Tryz.prog 20 [rgA r] (B false) := by have q := short_pure r; rw [h] at q; exact q
theorem reg_t {r : Rg} (hs : shB r = true) (h : rgOK r = true) : APure Tryz.prog 21 [rgA r] (B true) := by have q := register_pure r (shB_len hs).1 (shB_len hs).2.1 (shB_len hs).2.2; rw [h] at q; exact q
theorem reg_f {r : Rg} (hs : shB r = true) (h : rgOK r = false) : APure Tryz.prog 21 [rgA r] (B false) := by have q := register_pure r (shB_len hs).1 (shB_len hs).2.1 (shB_len hs).2.2; rw [h] at q; exact q
end Go.Proofs.YtjpokekbjmdgmaaGreatDoor
namespace Go.Proofs.YtjpokekbjmdgmaaGreatDoor
open Go Go.Ab Ni Hd
def slimB (l : List Int) : Bool := decide (l.length ≤ 10)
theorem slim_len {l : List Int} (h : slimB l = true) : l.length ≤ 1000000 := by have := of_decide_eq_true h; omega
theorem least_nn : ∀ (l : List Int), (∀ x ∈ l, 0 ≤ x) → 0 ≤ least 6 l
  | [], _ => by decide
  | x :: l, h => by have := least_nn l (fun y hy => h y (List.mem_cons_of_mem _ hy)); have := h x (by simp); simp only [least]; omega
theorem rmeas_pure (r : Rg) (n : Int) (hk : r.kinds.length ≤ 1000000) : APure Tryz.prog 48 [rgA r, I n] (B (msIn r n)) := by
  refine ap Tryz.func48 (fun e0 he0 => ?_)
  refine wz 7 ?_
  refine kz az (rin_pure _ _ _) ?_
  refine wz 1 ?_
  exact rz rfl (Less.eq rfl)
theorem rfind_pure (r : Rg) (f : List Int) (hl : f.length ≤ 1000000) : APure Tryz.prog 24 [rgA r, ints f] (B (fdOK r f)) := by
  refine ap Tryz.func24 (fun e0 he0 => ?_)
  refine wz 3 ?_
  refine aw_loopk (ι := { k : Nat // k ≤ f.length ∧ ∀ i, (hi : i < f.length) → i < k → inn f[i] (-1) 1000 = true }) [1, 2] (fun i => [(5, I i.1)]) (fun H i => H) (fun i => f.length - i.1) (⟨0, Nat.zero_le _, by omega⟩) ⟨jz, jz, jz, trivial⟩ rfl ?_
  rintro ⟨k, hk, hok⟩
  refine nz ?_
  refine wz 4 ?_
  refine iz (fun c_9 c_9' => ?_) (fun c_9 c_9' => ?_)
  ·have hkl : k < f.length := by omega
   refine wz 4 ?_
   refine kz az (rin_pure _ _ _) ?_
   refine wz 1 ?_
   refine iz (fun c_17 c_17' => ?_) (fun c_17 c_17' => ?_)
   ·refine wz 1 ?_
    exact rz rfl (Less.eq (by rw [fd_bad hkl (by simpa using c_17)]))
   refine wz 3 ?_
   exact ⟨⟨k + 1, by omega, fun i hi h => (by by_cases e : i = k; (subst e; simpa using c_17); exact hok i hi (by omega))⟩, by simp only; omega, Sub.slots ⟨jz, jz, jz, trivial⟩⟩
  obtain rfl : k = f.length := by omega
  have hall : (f.all fun n => inn n (-1) 1000) = true := all_of fun j hj => hok j hj hj
  refine wz 7 ?_
  exact rz rfl (Less.eq (congrArg B (by unfold fdOK; rw [hall, Bool.and_true, Bool.eq_iff_iff]; simp; omega)))
theorem slim_pure (l : List Int) : APure Tryz.prog 30 [ints l] (B (slimB l)) := by
  refine ap Tryz.func30 (fun e0 he0 => ?_)
  refine wz 5 ?_
  exact rz rfl (Less.eq (congrArg B (by unfold slimB; rw [Bool.eq_iff_iff]; simp; omega)))
theorem rmeasures_pure (r : Rg) (l : List Int) (hk : r.kinds.length ≤ 1000000) (hl : l.length ≤ 1000000) : APure Tryz.prog 28 [rgA r, ints l] (B (okM r l)) := by
  refine ap Tryz.func28 (fun e0 he0 => ?_)
  refine wz 3 ?_
  refine aw_loopk (ι := { k : Nat // k ≤ l.length ∧ ∀ i, (hi : i < l.length) → i < k → msIn r l[i] = true ∧ (0 < i → l[i - 1] < l[i]) }) [1, 2] (fun i => [(5, I i.1)]) (fun H i => H) (fun i => l.length - i.1) (⟨0, Nat.zero_le _, by omega⟩) ⟨jz, jz, jz, trivial⟩ rfl ?_
  rintro ⟨k, hk1, hok⟩
  refine nz ?_
  refine wz 4 ?_
  refine iz (fun c_9 c_9' => ?_) (fun c_9 c_9' => ?_)
  ·have hkl : k < l.length := by omega
   refine wz 0 ?_
   refine aw_draw 23 mo (by kernel_rfl) ?_
   refine dz 5 ?_
   refine dkz az (rmeas_pure r _ hk) ?_
   refine dz 2 ?_
   refine dsz 19 (fun g4_7 g4_7' => ?_) (fun g4_7 g4_7' => ?_)
   ·have hms : msIn r l[k] = false := by simpa using g4_7
    have hno : okM r l = false := okM_no hkl (fun q => by rw [hms] at q; exact Bool.noConfusion q.1)
    refine dz 15 ?_
    refine wz 2 ?_
    exact rz rfl (Less.eq (by rw [hno]))
   have hms : msIn r l[k] = true := by simpa using g4_7
   refine dz 3 ?_
   refine dsz 22 (fun g4_10 g4_10' => ?_) (fun g4_10 g4_10' => ?_)
   ·refine dz 7 ?_
    refine dr_yes rfl rfl (less_b g4_10) rfl (ev_index_map (k := k - 1) sl28.h jz jz (by omega) (by omega)) ?_
    refine dz 4 ?_
    refine wz 0 ?_
    refine iz (fun c_34 c_34' => ?_) (fun c_34 c_34' => ?_)
    ·have hno : okM r l = false := okM_no hkl (fun q => by have h5 := q.2 (by omega); have h6 := of_decide_eq_true c_34; omega)
     refine wz 1 ?_
     exact rz rfl (Less.eq (by rw [hno]))
    have hst : msIn r l[k] = true ∧ (0 < k → l[k - 1] < l[k]) := ⟨hms, fun q => by have := of_decide_eq_false c_34; omega⟩
    refine wz 3 ?_
    exact ⟨⟨k + 1, by omega, fun i hi q => by rcases Nat.lt_or_ge i k with q2 | q2; exact hok i hi q2; (obtain rfl : i = k := by omega); exact hst⟩, by simp only; omega, Sub.slots ⟨jz, jz, jz, trivial⟩⟩
   have hst : msIn r l[k] = true ∧ (0 < k → l[k - 1] < l[k]) := ⟨hms, fun q => by omega⟩
   refine dz 12 ?_
   refine wz 4 ?_
   exact ⟨⟨k + 1, by omega, fun i hi q => by rcases Nat.lt_or_ge i k with q2 | q2; exact hok i hi q2; (obtain rfl : i = k := by omega); exact hst⟩, by simp only; omega, Sub.slots ⟨jz, jz, jz, trivial⟩⟩
  obtain rfl : k = l.length := by omega
  have hall := okM_yes fun i hi => hok i hi hi
  refine wz 1 ?_
  exact rz rfl (Less.eq (by rw [hall]))
end Go.Proofs.YtjpokekbjmdgmaaGreatDoor
namespace Go.Proofs.YtjpokekbjmdgmaaGreatDoor
open Go Go.Ab Ni Hd
instance un4 : UnD Tryz.prog 4 .bool := ⟨by kernel_rfl⟩
theorem slim_t {l : List Int} (h : slimB l = true) : APure Tryz.prog 30 [ints l] (B true) := by have q := slim_pure l; rw [h] at q; exact q
theorem slim_f {l : List Int} (h : slimB l = false) : APure Tryz.prog 30 [ints l] (B false) := by have q := slim_pure l; rw [h] at q; exact q
end Go.Proofs.YtjpokekbjmdgmaaGreatDoor
namespace Go.Proofs.YtjpokekbjmdgmaaGreatDoor
open Go Go.Ab Ni Hd
instance en128 : EnT Tryz.prog 128 := ⟨Ent.of Tryz.func128 (by kernel_rfl) rfl⟩
instance en159 : EnT Tryz.prog 159 := ⟨Ent.of Tryz.func159 (by kernel_rfl) rfl⟩
instance en69 : EnT Tryz.prog 69 := ⟨Ent.of Tryz.func69 (by kernel_rfl) rfl⟩
instance en70 : EnT Tryz.prog 70 := ⟨Ent.of Tryz.func70 (by kernel_rfl) rfl⟩
instance en72 : EnT Tryz.prog 72 := ⟨Ent.of Tryz.func72 (by kernel_rfl) rfl⟩
def apI (r : Rg) (h g k : Nat) (ms : List Int) (i j : Nat) : Int := if i = 0 ∧ j = 0 then -1 else apO r h g k ms i j
def RL (r : Rg) (k : Nat) : Nat := (rng (sl r k) (sh r k)).length
theorem apI_row {r : Rg} {h g k : Nat} {ms : List Int} {i : Nat} (gB : RgB r) (hk : k < 2) (hi : i < RL r k) : apI r h g k ms i (RL r k) = apI r h g k ms (i + 1) 0 := by
  have hs := spank_bd gB hk
  have hl := rng_len (sl r k) (sh r k)
  unfold RL at hi ⊢
  unfold apI; rw [if_neg (by omega), if_neg (by omega), apO_row hi]
theorem apI_end {r : Rg} (gB : RgB r) (h g : Nat) {k : Nat} (hk : k < 2) (ms : List Int) : apI r h g k ms (RL r k) 0 = apart r h g k ms := by
  have hs := spank_bd gB hk
  have hl := rng_len (sl r k) (sh r k)
  unfold apI RL; rw [if_neg (by omega), apO_end]
theorem apO_nn (r : Rg) (h g k : Nat) (ms : List Int) (i j : Nat) : 0 ≤ apO r h g k ms i j ∧ apO r h g k ms i j ≤ 6 := by
  refine ⟨least_nn _ fun x hx => ?_, least_le _ _⟩
  rcases List.mem_append.1 hx with q | q
  · obtain ⟨y, _, q⟩ := List.mem_flatMap.1 q
    obtain ⟨z, _, rfl⟩ := List.mem_map.1 q
    unfold apN; omega
  · obtain ⟨z, _, rfl⟩ := List.mem_map.1 q
    unfold apN; omega
theorem apI_bd (r : Rg) (h g k : Nat) (ms : List Int) (i j : Nat) : -1 ≤ apI r h g k ms i j ∧ apI r h g k ms i j ≤ 6 := by
  have := apO_nn r h g k ms i j; unfold apI; split <;> omega
theorem apI_succ {r : Rg} {h g k : Nat} {ms : List Int} {i j : Nat} (hj : j < RL r k) (h6 : apN r h g k ms (sl r k + i) (sl r k + j) ≤ 6) :
    apI r h g k ms i (j + 1) = if apI r h g k ms i j < 0 ∨ apN r h g k ms (sl r k + i) (sl r k + j) < apI r h g k ms i j then apN r h g k ms (sl r k + i) (sl r k + j) else apI r h g k ms i j := by
  have hb := apO_nn r h g k ms i j
  have e : apI r h g k ms i (j + 1) = min (apO r h g k ms i j) (apN r h g k ms (sl r k + i) (sl r k + j)) := by unfold apI; rw [if_neg (by omega), apO_succ hj]
  rw [e]
  by_cases h0 : i = 0 ∧ j = 0
  · obtain ⟨rfl, rfl⟩ := h0
    have : apI r h g k ms 0 0 = -1 := rfl
    rw [if_pos (.inl (by omega)), apO_0]; omega
  · have e2 : apI r h g k ms i j = apO r h g k ms i j := by unfold apI; rw [if_neg h0]
    rw [e2]; split <;> omega
theorem apK_ref {r : Rg} {h g k : Nat} {x y : Int} {mm : Nat} (hml : mm < r.kinds.length) : apK r h g k x y (mm : Int) = (decide (r.kinds[mm] = (k : Int) + 1) && apB r h g x y mm) := by
  unfold apK; rw [Int.toNat_natCast, kd_at hml]; congr 1; rw [decide_eq_decide]; omega
theorem apB_ref2 {r : Rg} {h g : Nat} {x y : Int} {m : Nat} (h0 : 0 ≤ r.off ∧ r.off ≤ 5) (h1 : 0 ≤ sz r h m * x ∧ sz r h m * x ≤ 650000) (h2 : 0 ≤ sz r g m * y ∧ sz r g m * y ≤ 650000) :
    apB r h g x y m = decide ((min (sz r h m * x) (sz r g m * y) + r.off * 1000).tdiv 1000 < if max (sz r h m * x) (sz r g m * y) < r.off * 1000 then 0 else (max (sz r h m * x) (sz r g m * y) - r.off * 1000 + 1000 - 1).tdiv 1000) := by
  unfold apB; rw [decide_eq_decide, apB_ref h0 h1 h2]
  rw [Int.tdiv_eq_ediv_of_nonneg (by omega)]
  split
  · exact Iff.rfl
  · rw [Int.tdiv_eq_ediv_of_nonneg (by omega), show max (sz r h m * x) (sz r g m * y) - r.off * 1000 + 1000 - 1 = max (sz r h m * x) (sz r g m * y) - r.off * 1000 + 999 by omega]
theorem tdiv_bd {a : Int} (h : -1000000 ≤ a ∧ a ≤ 1000000) : -1000000 ≤ a.tdiv 1000 ∧ a.tdiv 1000 ≤ 1000000 := by
  rcases Int.le_total 0 a with q | q
  · rw [Int.tdiv_eq_ediv_of_nonneg q]; omega
  · obtain ⟨b, rfl⟩ : ∃ b, a = -b := ⟨-a, by omega⟩
    rw [Int.neg_tdiv, Int.tdiv_eq_ediv_of_nonneg (by omega)]; omega
theorem rapart_pure {r : Rg} (gB : RgB r) {h g k : Nat} (hhl : h < r.hides.length) (hgl : g < r.hides.length) (hk2 : k < 2) {ms : List Int} (hms : msP r ms) (hl : ms.length ≤ 6) : APure Tryz.prog 159 [rgA r, I h, I g, ints ms, I ((k : Int) + 1), .agg [I (sl r k), I (sh r k)]] (I (apart r h g k ms)) := by
  refine ap Tryz.func159 (fun e0 he0 => ?_)
  refine aw_seq ?_
  have hsp := spank_bd gB hk2
  have hRL : RL r k = (sh r k - sl r k + 1).toNat := rng_len _ _
  have hoff := gB.off
  refine wz 7 ?_
  refine aw_loopk (ι := { i : Nat // i ≤ RL r k }) [1, 2, 3, 4, 6, 11] (fun i => [(13, I (apI r h g k ms i.1 0)), (14, I (sl r k + (i.1 : Int)))]) (fun H i => H) (fun i => RL r k - i.1) (⟨0, Nat.zero_le _⟩) ⟨jz, (by exact less_int (show sl r k = sl r k + ((0 : Nat) : Int) by omega)), jz, jz, jz, jz, jz, jz, trivial⟩ rfl ?_
  rintro ⟨i, hi⟩
  refine nz ?_
  refine wz 4 ?_
  refine iz (fun c_28 c_28' => ?_) (fun c_28 c_28' => ?_)
  ·have hia : i < RL r k := by omega
   have hrdi : 0 ≤ sl r k + (i : Int) ∧ sl r k + (i : Int) ≤ 1300 := by have h1 := rng_len (sl r k) (sh r k); unfold RL at *; omega
   refine wz 3 ?_
   refine aw_loopk (ι := { j : Nat // j ≤ RL r k }) [1, 2, 3, 4, 6, 11, 14] (fun v => [(13, I (apI r h g k ms i v.1)), (15, I (sl r k + (v.1 : Int)))]) (fun H v => H) (fun v => RL r k - v.1) (⟨0, Nat.zero_le _⟩) ⟨jz, (by exact less_int (show sl r k = sl r k + ((0 : Nat) : Int) by omega)), jz, jz, jz, jz, jz, jz, jz, trivial⟩ rfl ?_
   rintro ⟨j, hj⟩
   refine nz ?_
   have hab0 := apI_bd r h g k ms i j
   refine wz 4 ?_
   refine iz (fun c_36 c_36' => ?_) (fun c_36 c_36' => ?_)
   ·have hja : j < RL r k := by omega
    have hrdj : 0 ≤ sl r k + (j : Int) ∧ sl r k + (j : Int) ≤ 1300 := by have h1 := rng_len (sl r k) (sh r k); unfold RL at *; omega
    refine wz 2 ?_
    refine aw_loopk (ι := { c : Nat // c ≤ ms.length }) [1, 2, 3, 4, 6, 11, 13, 14, 15] (fun u => [(16, I (apC r h g k ms (sl r k + (i : Int)) (sl r k + (j : Int)) u.1 : Nat)), (17, I u.1)]) (fun H u => H) (fun u => ms.length - u.1) (⟨0, Nat.zero_le _⟩) ⟨jz, jz, jz, jz, jz, jz, jz, jz, jz, jz, jz, trivial⟩ rfl ?_
    rintro ⟨c, hc⟩
    refine nz ?_
    have hcl := apC_le r h g k ms (sl r k + (i : Int)) (sl r k + (j : Int)) c
    refine wz 4 ?_
    refine iz (fun c_42 c_42' => ?_) (fun c_42 c_42' => ?_)
    ·have hcl2 : c < ms.length := by omega
     obtain ⟨mm, hmm, hml⟩ := msP_at hms hcl2
     have hak := apK_ref (h := h) (g := g) (k := k) (x := (sl r k + (i : Int))) (y := (sl r k + (j : Int))) hml
     refine wz 3 ?_
     refine sq_ev rfl (ev_less (ev_load_i jz ty3.h rfl) (Less.eq (b := I (mm : Int)) (by rw [← hmm] <;> rfl))) ?_
     refine wz 8 ?_
     refine iz (fun c_55 c_55' => ?_) (fun c_55 c_55' => ?_)
     ·have eC : apC r h g k ms (sl r k + (i : Int)) (sl r k + (j : Int)) (c + 1) = apC r h g k ms (sl r k + (i : Int)) (sl r k + (j : Int)) c := by rw [apC_succ hcl2, hmm, hak, decide_eq_false (by simpa using c_55), Bool.false_and, if_neg (by simp), Nat.add_zero]
      refine wz 3 ?_
      exact ⟨⟨c + 1, by omega⟩, by simp only; omega, Sub.slots ⟨Less.eq (by rw [eC] <;> rfl), jz, jz, jz, jz, jz, jz, jz, jz, jz, jz, trivial⟩⟩
     rw [decide_eq_true (by simpa using c_55), Bool.true_and] at hak
     refine aw_skip ?_
     refine aw_seq ?_
     have hq1 := long_bd gB hhl hml hrdi
     have hq2 := long_bd gB hgl hml hrdj
     have hs1 := sz_at gB hhl hml
     have hs2 := sz_at gB hgl hml
     have hab := apB_ref2 (r := r) (by omega) hq1 hq2
     have hmh : mm < (r.hides[h]).length := by rw [gB.hl h hhl]; exact hml
     have hmg : mm < (r.hides[g]).length := by rw [gB.hl g hgl]; exact hml
     rw [hs1, hs2] at hab
     rw [hs1] at hq1
     rw [hs2] at hq2
     have ht1 := tdiv_bd (a := max ((r.hides[h])[mm] * (sl r k + (i : Int))) ((r.hides[g])[mm] * (sl r k + (j : Int))) - r.off * 1000 + 1000 - 1) (by omega)
     have ht2 := tdiv_bd (a := min ((r.hides[h])[mm] * (sl r k + (i : Int))) ((r.hides[g])[mm] * (sl r k + (j : Int))) + r.off * 1000) (by omega)
     refine aw_drawc [] [] _ mo (by kernel_rfl) (HSub.refl _) ?_
     first | refine dc_ev rfl (ev_fieldAddr fo27_1.h jz) ?_ | refine dc_ev rfl (ev_fieldAddr_i fo27_1.h jz) ?_
     first | refine dc_ev rfl (ev_load jz rfl ty23.h rfl) ?_ | refine dc_ev rfl (ev_load_i jz ty23.h rfl) ?_
     refine dc_ev rfl (ev_mv (v := .raw _) jz) ?_
     first | refine dc_ev rfl (ev_index_map sl23.h jz jz rfl (by omega)) ?_ | refine dc_ev rfl (ev_index sl23.h jz jz rfl rfl) ?_
     first | refine dc_ev rfl (ev_load jz rfl ty28.h rfl) ?_ | refine dc_ev rfl (ev_load_i jz ty28.h rfl) ?_
     refine dc_ev rfl (ev_mv (v := .raw _) jz) ?_
     first | refine dc_ev rfl (ev_index_map sl28.h jz jz rfl (by omega)) ?_ | refine dc_ev rfl (ev_index sl28.h jz jz rfl rfl) ?_
     first | refine dc_ev rfl (ev_load jz rfl ty3.h rfl) ?_ | refine dc_ev rfl (ev_load_i jz ty3.h rfl) ?_
     refine dc_ev rfl (ev_mv (v := .raw _) jz) ?_
     refine dc_ev rfl (ev_mul jz jz (wr (by omega) (by omega))) ?_
     first | refine dc_ev rfl (ev_fieldAddr fo27_1.h jz) ?_ | refine dc_ev rfl (ev_fieldAddr_i fo27_1.h jz) ?_
     first | refine dc_ev rfl (ev_load jz rfl ty23.h rfl) ?_ | refine dc_ev rfl (ev_load_i jz ty23.h rfl) ?_
     refine dc_ev rfl (ev_mv (v := .raw _) jz) ?_
     first | refine dc_ev rfl (ev_index_map sl23.h jz jz rfl (by omega)) ?_ | refine dc_ev rfl (ev_index sl23.h jz jz rfl rfl) ?_
     first | refine dc_ev rfl (ev_load jz rfl ty28.h rfl) ?_ | refine dc_ev rfl (ev_load_i jz ty28.h rfl) ?_
     refine dc_ev rfl (ev_mv (v := .raw _) jz) ?_
     first | refine dc_ev rfl (ev_index_map sl28.h jz jz rfl (by omega)) ?_ | refine dc_ev rfl (ev_index sl28.h jz jz rfl rfl) ?_
     first | refine dc_ev rfl (ev_load jz rfl ty3.h rfl) ?_ | refine dc_ev rfl (ev_load_i jz ty3.h rfl) ?_
     refine dc_ev rfl (ev_mv (v := .raw _) jz) ?_
     refine dc_ev rfl (ev_mul jz jz (wr (by omega) (by omega))) ?_
     refine dc_ev rfl (ev_as (v := .raw _) jz) ?_
     refine dc_ev rfl (ev_as (v := .raw _) jz) ?_
     refine dc_nil ?_
     refine wz 0 ?_
     refine aw_drawc [] [] _ mo (by kernel_rfl) (HSub.refl _) ?_
     refine dc_ev rfl (ev_mv (v := .raw _) jz) ?_
     refine dc_ev rfl (ev_mv (v := .raw _) jz) ?_
     refine dc_ev rfl (ev_max2 jz jz) ?_
     first | refine dc_ev rfl (ev_fieldAddr fo27_4.h jz) ?_ | refine dc_ev rfl (ev_fieldAddr_i fo27_4.h jz) ?_
     first | refine dc_ev rfl (ev_load jz rfl ty3.h rfl) ?_ | refine dc_ev rfl (ev_load_i jz ty3.h rfl) ?_
     refine dc_ev rfl (ev_mul jz jz (wr (by omega) (by omega))) ?_
     refine dc_ev rfl (ev_sub jz jz (wr (by omega) (by omega))) ?_
     refine dc_ev rfl (ev_add jz jz (wr (by omega) (by omega))) ?_
     refine dc_ev rfl (ev_sub jz jz (wr (by omega) (by omega))) ?_
     refine dc_ev rfl (ev_quo jz jz (by decide) (wr (by omega) (by omega))) ?_
     refine dc_ev rfl (ev_mv (v := .raw _) jz) ?_
     refine dc_ev rfl (ev_mv (v := .raw _) jz) ?_
     refine dc_ev rfl (ev_min2 jz jz) ?_
     first | refine dc_ev rfl (ev_fieldAddr fo27_4.h jz) ?_ | refine dc_ev rfl (ev_fieldAddr_i fo27_4.h jz) ?_
     first | refine dc_ev rfl (ev_load jz rfl ty3.h rfl) ?_ | refine dc_ev rfl (ev_load_i jz ty3.h rfl) ?_
     refine dc_ev rfl (ev_mul jz jz (wr (by omega) (by omega))) ?_
     refine dc_ev rfl (ev_add jz jz (wr (by omega) (by omega))) ?_
     refine dc_ev rfl (ev_quo jz jz (by decide) (wr (by omega) (by omega))) ?_
     refine dc_ev rfl (ev_as (v := .raw _) jz) ?_
     refine dc_ev rfl (ev_as (v := .raw _) jz) ?_
     refine dc_nil ?_
     refine wz 7 ?_
     refine iz (fun c_100 c_100' => ?_) (fun c_100 c_100' => ?_)
     ·rw [if_pos (of_decide_eq_true c_100)] at hab
      refine wz 4 ?_
      refine iz (fun c_103 c_103' => ?_) (fun c_103 c_103' => ?_)
      ·have eC : apC r h g k ms (sl r k + (i : Int)) (sl r k + (j : Int)) (c + 1) = apC r h g k ms (sl r k + (i : Int)) (sl r k + (j : Int)) c + 1 := by rw [apC_succ hcl2, hmm, hak, hab, if_pos (by simpa using c_103)]
       refine wz 6 ?_
       exact ⟨⟨c + 1, by omega⟩, by simp only; omega, Sub.slots ⟨Less.eq (by rw [eC] <;> rfl), jz, jz, jz, jz, jz, jz, jz, jz, jz, jz, trivial⟩⟩
      have eC : apC r h g k ms (sl r k + (i : Int)) (sl r k + (j : Int)) (c + 1) = apC r h g k ms (sl r k + (i : Int)) (sl r k + (j : Int)) c := by rw [apC_succ hcl2, hmm, hak, hab, if_neg (by simpa using c_103), Nat.add_zero]
      refine wz 3 ?_
      exact ⟨⟨c + 1, by omega⟩, by simp only; omega, Sub.slots ⟨Less.eq (by rw [eC] <;> rfl), jz, jz, jz, jz, jz, jz, jz, jz, jz, jz, trivial⟩⟩
     rw [if_neg (of_decide_eq_false c_100)] at hab
     refine wz 3 ?_
     refine iz (fun c_103 c_103' => ?_) (fun c_103 c_103' => ?_)
     ·have eC : apC r h g k ms (sl r k + (i : Int)) (sl r k + (j : Int)) (c + 1) = apC r h g k ms (sl r k + (i : Int)) (sl r k + (j : Int)) c + 1 := by rw [apC_succ hcl2, hmm, hak, hab, if_pos (by simpa using c_103)]
      refine wz 6 ?_
      exact ⟨⟨c + 1, by omega⟩, by simp only; omega, Sub.slots ⟨Less.eq (by rw [eC] <;> rfl), jz, jz, jz, jz, jz, jz, jz, jz, jz, jz, trivial⟩⟩
     have eC : apC r h g k ms (sl r k + (i : Int)) (sl r k + (j : Int)) (c + 1) = apC r h g k ms (sl r k + (i : Int)) (sl r k + (j : Int)) c := by rw [apC_succ hcl2, hmm, hak, hab, if_neg (by simpa using c_103), Nat.add_zero]
     refine wz 3 ?_
     exact ⟨⟨c + 1, by omega⟩, by simp only; omega, Sub.slots ⟨Less.eq (by rw [eC] <;> rfl), jz, jz, jz, jz, jz, jz, jz, jz, jz, jz, trivial⟩⟩
    obtain rfl : c = ms.length := by omega
    have hcf : ((apC r h g k ms (sl r k + (i : Int)) (sl r k + (j : Int)) ms.length : Nat) : Int) = apN r h g k ms (sl r k + (i : Int)) (sl r k + (j : Int)) := by unfold apC apN; rw [List.take_length]
    have hsu := apI_succ (h := h) (g := g) (ms := ms) (i := i) hja (by rw [← hcf]; omega)
    rw [← hcf] at hsu
    refine wz 3 ?_
    refine sz 108 (fun g20_2 g20_2' => ?_) (fun g20_2 g20_2' => ?_)
    ·have eS : apI r h g k ms i (j + 1) = ((apC r h g k ms (sl r k + (i : Int)) (sl r k + (j : Int)) ms.length : Nat) : Int) := by rw [hsu, if_pos (.inl (by simpa using g20_2))]
     refine wz 10 ?_
     exact ⟨⟨j + 1, by omega⟩, by simp only; omega, Sub.slots ⟨Less.eq (by rw [eS] <;> rfl), (by exact less_int (show sl r k + (j : Int) + 1 = sl r k + ((j + 1 : Nat) : Int) by omega)), jz, jz, jz, jz, jz, jz, jz, trivial⟩⟩
    refine wz 4 ?_
    refine iz (fun c_112 c_112' => ?_) (fun c_112 c_112' => ?_)
    ·have eS : apI r h g k ms i (j + 1) = ((apC r h g k ms (sl r k + (i : Int)) (sl r k + (j : Int)) ms.length : Nat) : Int) := by rw [hsu, if_pos (.inr (by simpa using c_112))]
     refine wz 5 ?_
     exact ⟨⟨j + 1, by omega⟩, by simp only; omega, Sub.slots ⟨Less.eq (by rw [eS] <;> rfl), (by exact less_int (show sl r k + (j : Int) + 1 = sl r k + ((j + 1 : Nat) : Int) by omega)), jz, jz, jz, jz, jz, jz, jz, trivial⟩⟩
    have eS : apI r h g k ms i (j + 1) = apI r h g k ms i j := by rw [hsu, if_neg (by simp at g20_2 c_112; omega)]
    refine wz 3 ?_
    exact ⟨⟨j + 1, by omega⟩, by simp only; omega, Sub.slots ⟨Less.eq (by rw [eS] <;> rfl), (by exact less_int (show sl r k + (j : Int) + 1 = sl r k + ((j + 1 : Nat) : Int) by omega)), jz, jz, jz, jz, jz, jz, jz, trivial⟩⟩
   obtain rfl : j = RL r k := by omega
   have eR := apI_row (h := h) (g := g) (ms := ms) gB hk2 hia
   refine wz 3 ?_
   exact ⟨⟨i + 1, by omega⟩, by simp only; omega, Sub.slots ⟨Less.eq (by rw [eR] <;> rfl), (by exact less_int (show sl r k + (i : Int) + 1 = sl r k + ((i + 1 : Nat) : Int) by omega)), jz, jz, jz, jz, jz, jz, trivial⟩⟩
  obtain rfl : i = RL r k := by omega
  refine wz 2 ?_
  exact rz rfl (Less.eq (by rw [apI_end gB h g hk2]))
end Go.Proofs.YtjpokekbjmdgmaaGreatDoor
namespace Go.Proofs.YtjpokekbjmdgmaaGreatDoor
open Go Go.Ab Ni Hd
def twR (r : Rg) (ms : List Int) : Nat × Nat := match twinsOf r ms with | some p => p | none => (0, 0)
theorem twR_some {r : Rg} {ms : List Int} {i k : Nat} (h : twinsOf r ms = some (i, k)) : twR r ms = (i, k) ∧ enough r ms = false := by unfold twR enough; rw [h]; exact ⟨rfl, rfl⟩
theorem twR_none {r : Rg} {ms : List Int} (h : ∀ i, i < r.hides.length → pairI r ms i = none) : twR r ms = (0, 0) ∧ enough r ms = true := by
  have e : twinsOf r ms = none := by unfold twinsOf; rw [List.findSome?_eq_none_iff]; exact fun i hi => h i (List.mem_range.1 hi)
  unfold twR enough; rw [e]; exact ⟨rfl, rfl⟩
theorem rmist_pure {r : Rg} (gB : RgB r) {h g : Nat} (hhl : h < r.hides.length) (hgl : g < r.hides.length) {ms : List Int} (hms : msP r ms) (hl : ms.length ≤ 6) : APure Tryz.prog 128 [rgA r, I h, I g, ints ms] (B (mist r ms h g)) := by
  refine ap Tryz.func128 (fun e0 he0 => ?_)
  refine vz 2 ?_
  refine sq_nil ?_
  refine aw_seq ?_
  have h0 := apart_bd r h g 0 ms
  have h1 := apart_bd r h g 1 ms
  have hmd := gB.mends
  refine aw_draw 16 mo (by kernel_rfl) ?_
  refine dz 6 ?_
  refine dkz az (rapart_pure gB hhl hgl (k := 0) (by omega) hms hl) ?_
  refine dz 6 ?_
  refine dkz az (rapart_pure gB hhl hgl (k := 1) (by omega) hms hl) ?_
  refine dz 2 ?_
  refine wz 6 ?_
  exact rz rfl (Less.eq (by unfold mist; rfl))
theorem rtwins_pure {r : Rg} (gB : RgB r) {ms : List Int} (hms : msP r ms) (hl : ms.length ≤ 6) : APure Tryz.prog 69 [rgA r, ints ms] (.tup [I ((twR r ms).1 : Nat), I ((twR r ms).2 : Nat), B (!enough r ms)]) := by
  refine ap Tryz.func69 (fun e0 he0 => ?_)
  refine wz 5 ?_
  refine aw_loopk (ι := { i : Nat // i ≤ r.hides.length ∧ ∀ j, j < i → pairI r ms j = none }) [1, 2] (fun i => [(7, I i.1)]) (fun H i => H) (fun i => r.hides.length - i.1) (⟨0, Nat.zero_le _, fun j hj => by omega⟩) ⟨jz, jz, jz, trivial⟩ rfl ?_
  rintro ⟨i, hi, hno⟩
  refine nz ?_
  have hnh := gB.nh
  refine wz 5 ?_
  refine iz (fun c_13 c_13' => ?_) (fun c_13 c_13' => ?_)
  ·have hik : i < r.hides.length := by omega
   refine wz 3 ?_
   refine aw_loopk (ι := { k : Nat // (i + 1 ≤ k ∧ k ≤ r.hides.length) ∧ ∀ j, i < j → j < k → mist r ms i j = false }) [1, 2, 7] (fun u => [(8, I u.1)]) (fun H u => H) (fun u => r.hides.length - u.1) (⟨i + 1, by omega, fun j h1 h2 => by omega⟩) ⟨jz, jz, jz, jz, trivial⟩ rfl ?_
   rintro ⟨k, hk, hno1⟩
   refine nz ?_
   refine wz 5 ?_
   refine iz (fun c_22 c_22' => ?_) (fun c_22 c_22' => ?_)
   ·have hkk : k < r.hides.length := by omega
    refine wz 4 ?_
    refine kz az (rmist_pure gB hik hkk hms hl) ?_
    refine wz 0 ?_
    refine iz (fun c_29 c_29' => ?_) (fun c_29 c_29' => ?_)
    ·have hmi : mist r ms i k = true := c_29
     have htw : twinsOf r ms = some (i, k) := findSome_range hik (pairI_some (by omega) hkk hmi hno1) hno
     obtain ⟨et, ee⟩ := twR_some htw
     refine wz 5 ?_
     exact retQ_pure (v := .tup [.raw _, .raw _, .raw _]) rfl rfl (less_tup ⟨Less.eq (by rw [et] <;> rfl), Less.eq (by rw [et] <;> rfl), Less.eq (by rw [ee] <;> rfl), trivial⟩)
    have hmi : mist r ms i k = false := c_29
    refine wz 3 ?_
    exact ⟨⟨k + 1, by omega, fun j h1 h2 => by rcases Nat.lt_or_ge j k with q | q; exact hno1 j h1 q; (obtain rfl : j = k := by omega); exact hmi⟩, by simp only; omega, Sub.slots ⟨jz, jz, jz, jz, trivial⟩⟩
   obtain rfl : k = r.hides.length := by omega
   have hno2 : ∀ j, i < j → j < r.hides.length → mist r ms i j = false := hno1
   refine wz 3 ?_
   exact ⟨⟨i + 1, by omega, fun j hj => by rcases Nat.lt_or_ge j i with q | q; exact hno j q; (obtain rfl : j = i := by omega); exact pairI_none hno2⟩, by simp only; omega, Sub.slots ⟨jz, jz, jz, trivial⟩⟩
  obtain rfl : i = r.hides.length := by omega
  obtain ⟨et, ee⟩ := twR_none hno
  refine wz 3 ?_
  exact retQ_pure (v := .tup [.raw _, .raw _, .raw _]) rfl rfl (less_tup ⟨Less.eq (by rw [et] <;> rfl), Less.eq (by rw [et] <;> rfl), Less.eq (by rw [ee] <;> rfl), trivial⟩)
theorem revery_pure (r : Rg) (hk : r.kinds.length ≤ 1000000) : APure Tryz.prog 70 [rgA r] (ints (every r.kinds.length)) := by
  refine ap Tryz.func70 (fun e0 he0 => ?_)
  refine vz 4 ?_
  refine sq_nil ?_
  refine aw_block ?_
  refine aw_sub (sub_token 3 1 jz) ?_
  refine aw_loopk (ι := { k : Nat // k ≤ r.kinds.length }) [1] (fun i => [(4, I i.1), (3, .own 1 1 ((every i.1).map fun x => [I x]))]) (fun H i => H.set 1 (.tok ((every i.1).map fun x => [I x]).length)) (fun i => r.kinds.length - i.1) (⟨0, Nat.zero_le _⟩) ⟨jz, jz, jz, trivial⟩ rfl ?_
  rintro ⟨k, hk⟩
  refine nz ?_
  have hel := every_len k
  refine wz 5 ?_
  refine iz (fun c_9 c_9' => ?_) (fun c_9 c_9' => ?_)
  ·have eS : ((every (k + 1)).map fun x => [I x]) = ((every k).map fun x => [I x]) ++ [[I k]] := by rw [every_succ, List.map_append]; rfl
   refine wz 2 ?_
   refine sq_ev rfl (ev_buildSlice (es := [[_]]) sf28.h rfl rfl rfl rfl) ?_
   first | refine sq_append rfl sf28.h Tryz.underlying28 rfl rfl jz (Nat.succ_pos _) (by simp; omega) (by simp; omega) ?_ | refine sq_append rfl sf28.h Tryz.underlying28 rfl rfl (less_slx _ _) (Nat.succ_pos _) (by simp; omega) (by simp; omega) ?_
   refine wz 4 ?_
   exact ⟨⟨k + 1, by omega⟩, by simp only; omega, sb 2 ⟨jz, Less.eq (by rw [eS] <;> rfl), jz, trivial⟩ (hH := (congrArg (fun n => [_, AObj.tok n]) (congrArg List.length eS.symm)))⟩
  obtain rfl : k = r.kinds.length := by omega
  refine wz 2 ?_
  exact retQ_pure (v := .own _ _ _) rfl rfl (less_own _ _ _)
theorem renough_pure {r : Rg} (gB : RgB r) {ms : List Int} (hms : msP r ms) (hl : ms.length ≤ 6) : APure Tryz.prog 72 [rgA r, ints ms] (B (enough r ms)) := by
  refine ap Tryz.func72 (fun e0 he0 => ?_)
  refine wz 4 ?_
  refine kz az (rtwins_pure gB hms hl) ?_
  refine wz 10 ?_
  exact rz rfl (Less.eq (by rw [Bool.not_not]))
end Go.Proofs.YtjpokekbjmdgmaaGreatDoor
namespace Go.Proofs.YtjpokekbjmdgmaaGreatDoor
open Go Go.Ab Ni Hd
instance en129 : EnT Tryz.prog 129 := ⟨Ent.of Tryz.func129 (by kernel_rfl) rfl⟩
instance en71 : EnT Tryz.prog 71 := ⟨Ent.of Tryz.func71 (by kernel_rfl) rfl⟩
def frm (now : List Int) : Nat := if h : 0 < now.length then (now[now.length - 1]).toNat + 1 else 0
theorem frm_snoc (now : List Int) (i : Nat) : frm (now ++ [(i : Int)]) = i + 1 := by unfold frm; rw [dif_pos (by simp)]; simp
theorem frm_nil {now : List Int} (h : now.length = 0) : frm now = 0 := by unfold frm; rw [dif_neg (by omega)]
theorem frm_at {r : Rg} {now : List Int} (hms : msP r now) (h : 0 < now.length) : (frm now : Int) = now[now.length - 1] + 1 ∧ frm now ≤ r.kinds.length := by
  have := hms _ (List.getElem_mem (show now.length - 1 < now.length by omega))
  unfold frm; rw [dif_pos h]; omega
def pln (r : Rg) (mm : Nat) (now : List Int) : Option (List Int) := plan (enough r) mm ((every r.kinds.length).drop (frm now)) now
def plL (r : Rg) (mm : Nat) (now : List Int) : List Int := match pln r mm now with | some l => l | none => if mm = 0 then now else []
abbrev PR (r : Rg) (mm : Nat) (now : List Int) : AV := .tup [ints (plL r mm now), B (pln r mm now).isSome]
theorem pln_0 (r : Rg) (now : List Int) : plL r 0 now = now ∧ (pln r 0 now).isSome = enough r now := by
  unfold plL pln plan; cases enough r now <;> simp
theorem pln_step {r : Rg} {m i : Nat} {now : List Int} (hi : i < r.kinds.length) : plan (enough r) (m + 1) ((every r.kinds.length).drop i) now = match pln r m (now ++ [(i : Int)]) with | some l => some l | none => plan (enough r) (m + 1) ((every r.kinds.length).drop (i + 1)) now := by
  unfold pln; rw [frm_snoc, List.drop_eq_getElem_cons (by rw [every_len]; exact hi), every_get, plan_cons]; cases plan (enough r) m (List.drop (i + 1) (every r.kinds.length)) (now ++ [(i : Int)]) <;> rfl
theorem pln_yes {r : Rg} {m i : Nat} {now : List Int} (hi : i < r.kinds.length) (heq : pln r (m + 1) now = plan (enough r) (m + 1) ((every r.kinds.length).drop i) now) (hs : (pln r m (now ++ [(i : Int)])).isSome = true) : plL r (m + 1) now = plL r m (now ++ [(i : Int)]) ∧ (pln r (m + 1) now).isSome = true := by
  rw [pln_step hi] at heq
  unfold plL
  cases hp : pln r m (now ++ [(i : Int)]) with
  | none => rw [hp] at hs; cases hs
  | some l => rw [hp] at heq; rw [heq]; exact ⟨rfl, rfl⟩
theorem pln_next {r : Rg} {m i : Nat} {now : List Int} (hi : i < r.kinds.length) (heq : pln r (m + 1) now = plan (enough r) (m + 1) ((every r.kinds.length).drop i) now) (hs : (pln r m (now ++ [(i : Int)])).isSome = false) : pln r (m + 1) now = plan (enough r) (m + 1) ((every r.kinds.length).drop (i + 1)) now := by
  rw [pln_step hi] at heq
  cases hp : pln r m (now ++ [(i : Int)]) with
  | none => rw [hp] at heq; exact heq
  | some l => rw [hp] at hs; cases hs
theorem pln_end {r : Rg} {m : Nat} {now : List Int} (heq : pln r (m + 1) now = plan (enough r) (m + 1) ((every r.kinds.length).drop r.kinds.length) now) : plL r (m + 1) now = [] ∧ (pln r (m + 1) now).isSome = false := by
  rw [List.drop_of_length_le (by rw [every_len]; exact Nat.le_refl _), plan] at heq
  unfold plL; rw [heq]; exact ⟨rfl, rfl⟩
theorem rplanned_nil {r : Rg} (gB : RgB r) (mm : Nat) (ih : ∀ m2, mm = m2 + 1 → ∀ now : List Int, msP r now → now.length + m2 ≤ 6 → APure Tryz.prog 129 [rgA r, ints now, I (now.length + m2 : Nat)] (PR r m2 now)) (now : List Int) (hms : msP r now) (hl : now.length + mm ≤ 6) (h0 : now.length = 0) : APure Tryz.prog 129 [rgA r, ints now, I (now.length + mm : Nat)] (PR r mm now) := by
  refine ap Tryz.func129 (fun e0 he0 => ?_)
  refine wz 7 ?_
  refine iz (fun c_15 c_15' => ?_) (fun c_15 c_15' => ?_)
  ·obtain rfl : mm = 0 := by omega
   obtain ⟨p1, p2⟩ := pln_0 r now
   refine wz 3 ?_
   refine kz az (renough_pure gB hms (by omega)) ?_
   refine vz 2 ?_
   refine sq_nil (aw_ret ?_)
   first | exact retQ_pure (v := .tup [.sl _ _, .raw _]) rfl rfl (less_tup ⟨Less.eq (by rw [p1]), Less.eq (by rw [p2]), trivial⟩) | exact retQ_pure (v := .tup [.raw _, .raw _]) rfl rfl (less_tup ⟨Less.trans (less_nil 1) (Less.eq (by rw [p1] <;> rfl)), Less.eq (by rw [p2] <;> rfl), trivial⟩)
  obtain ⟨m2, rfl⟩ : ∃ m2, mm = m2 + 1 := ⟨mm - 1, by omega⟩
  refine wz 4 ?_
  refine iz (fun c_22 c_22' => ?_) (fun c_22 c_22' => ?_)
  ·exfalso
   omega
  have hfk : frm now ≤ r.kinds.length := by rw [frm_nil h0]; omega
  refine wz 2 ?_
  refine aw_loopk (ι := { i : Nat // (frm now ≤ i ∧ i ≤ r.kinds.length) ∧ pln r (m2 + 1) now = plan (enough r) (m2 + 1) ((every r.kinds.length).drop i) now }) [1, 2, 3] (fun i => [(9, I i.1)]) (fun H i => H) (fun i => r.kinds.length - i.1) (⟨frm now, ⟨Nat.le_refl _, hfk⟩, rfl⟩) ⟨(by exact less_int (show (0 : Int) = (frm now : Int) by rw [frm_nil h0]; rfl)), jz, jz, jz, trivial⟩ rfl ?_
  rintro ⟨i, hi, heq⟩
  refine nz ?_
  have hnk := gB.nk
  refine wz 5 ?_
  refine iz (fun c_35 c_35' => ?_) (fun c_35 c_35' => ?_)
  ·have hil : i < r.kinds.length := by omega
   refine wz 0 ?_
   refine aw_drawc [] [2, 5] _ mo (by kernel_rfl) (HSub.refl _) ?_
   first | refine dc_ev rfl (ev_load_agg jz rfl ty27.h rfl) ?_ | refine dc_ev rfl (ev_load_agg_i jz ty27.h (by exact Nat.le_of_ble_eq_true rfl)) ?_
   first | refine dc_ev rfl (ev_mv (v := .sl _ _) jz) ?_ | refine dc_ev rfl (ev_mv (v := .own _ _ _) jz) ?_ | refine dc_ev rfl (ev_mv (v := .raw _) jz) ?_ | refine dc_ev rfl (ev_mv (v := .slx _ _) jz) ?_ | refine dc_ev rfl (ev_mv (v := .msl _ _ _ _) jz) ?_
   refine dc_eff rfl rfl (eff_append_new rfl sf28.h Tryz.underlying28 (less_nilx _) jz (by simp; omega) (by simp; omega)) (by apply HL.sub; repeat' (first | exact HL.nil _ | apply HL.same | apply HL.tok)) ?_
   refine dc_ev rfl (ev_mv (v := .raw _) jz) ?_
   refine dc_ev rfl (ev_buildSlice (es := [[_]]) sf28.h rfl rfl rfl rfl) ?_
   refine dc_eff rfl rfl (eff_append rfl sf28.h Tryz.underlying28 rfl rfl (less_slx _ _) (by simp; omega) (by simp; omega)) (by apply HL.sub; repeat' (first | exact HL.nil _ | apply HL.same | apply HL.tok)) ?_
   refine dc_ev rfl (ev_mv (v := .raw _) jz) ?_
   refine dc_ev rfl (ev_call en129.h jz (ih m2 rfl (now ++ [(i : Int)]) (msP_snoc hms hil) (by simp; omega)) ⟨jz, Less.trans (less_own _ _ _) (Less.eq (by simp)), (by exact less_int (by simp; omega)), trivial⟩) ?_
   refine dc_ev rfl (ev_mv (v := .tup _) jz) ?_
   refine dc_ev rfl (ev_extract jz rfl) ?_
   refine dc_ev rfl (ev_extract jz rfl) ?_
   first | refine dc_ev rfl (ev_as (v := .sl _ _) jz) ?_ | refine dc_ev rfl (ev_as (v := .own _ _ _) jz) ?_ | refine dc_ev rfl (ev_as (v := .raw _) jz) ?_ | refine dc_ev rfl (ev_as (v := .slx _ _) jz) ?_ | refine dc_ev rfl (ev_as (v := .msl _ _ _ _) jz) ?_
   refine dc_ev rfl (ev_as (v := .raw _) jz) ?_
   refine dc_nil ?_
   refine wz 1 ?_
   refine iz (fun c_49 c_49' => ?_) (fun c_49 c_49' => ?_)
   ·obtain ⟨p1, p2⟩ := pln_yes hil heq c_49
    refine vz 3 ?_
    refine sq_nil (aw_ret ?_)
    first | exact retQ_pure (v := .tup [.sl _ _, .raw _]) rfl rfl (less_tup ⟨Less.eq (by rw [p1]), Less.eq (by rw [p2]), trivial⟩) | exact retQ_pure (v := .tup [.raw _, .raw _]) rfl rfl (less_tup ⟨Less.trans (less_nil 1) (Less.eq (by rw [p1] <;> rfl)), Less.eq (by rw [p2] <;> rfl), trivial⟩)
   refine wz 3 ?_
   exact ⟨⟨i + 1, by omega, pln_next hil heq c_49⟩, by simp only; omega, sb 1 ⟨jz, jz, jz, jz, trivial⟩⟩
  obtain rfl : i = r.kinds.length := by omega
  obtain ⟨p1, p2⟩ := pln_end heq
  refine vz 2 ?_
  refine sq_nil (aw_ret ?_)
  first | exact retQ_pure (v := .tup [.sl _ _, .raw _]) rfl rfl (less_tup ⟨Less.eq (by rw [p1]), Less.eq (by rw [p2]), trivial⟩) | exact retQ_pure (v := .tup [.raw _, .raw _]) rfl rfl (less_tup ⟨Less.trans (less_nil 1) (Less.eq (by rw [p1] <;> rfl)), Less.eq (by rw [p2] <;> rfl), trivial⟩)
theorem rplanned_cons {r : Rg} (gB : RgB r) (mm : Nat) (ih : ∀ m2, mm = m2 + 1 → ∀ now : List Int, msP r now → now.length + m2 ≤ 6 → APure Tryz.prog 129 [rgA r, ints now, I (now.length + m2 : Nat)] (PR r m2 now)) (now : List Int) (hms : msP r now) (hl : now.length + mm ≤ 6) (h0 : 0 < now.length) : APure Tryz.prog 129 [rgA r, ints now, I (now.length + mm : Nat)] (PR r mm now) := by
  refine ap Tryz.func129 (fun e0 he0 => ?_)
  refine wz 7 ?_
  refine iz (fun c_15 c_15' => ?_) (fun c_15 c_15' => ?_)
  ·obtain rfl : mm = 0 := by omega
   obtain ⟨p1, p2⟩ := pln_0 r now
   refine wz 3 ?_
   refine kz az (renough_pure gB hms (by omega)) ?_
   refine vz 2 ?_
   refine sq_nil (aw_ret ?_)
   first | exact retQ_pure (v := .tup [.sl _ _, .raw _]) rfl rfl (less_tup ⟨Less.eq (by rw [p1]), Less.eq (by rw [p2]), trivial⟩) | exact retQ_pure (v := .tup [.raw _, .raw _]) rfl rfl (less_tup ⟨Less.trans (less_nil 1) (Less.eq (by rw [p1] <;> rfl)), Less.eq (by rw [p2] <;> rfl), trivial⟩)
  obtain ⟨m2, rfl⟩ : ∃ m2, mm = m2 + 1 := ⟨mm - 1, by omega⟩
  refine wz 4 ?_
  refine iz (fun c_22 c_22' => ?_) (fun c_22 c_22' => ?_)
  ·obtain ⟨hfe, hfk⟩ := frm_at hms h0
   have hnb := hms _ (List.getElem_mem (show now.length - 1 < now.length by omega))
   have hnk := gB.nk
   refine wz 4 ?_
   refine sq_ev rfl (ev_index_map (k := now.length - 1) sl28.h jz jz (by omega) (by omega)) ?_
   refine wz 5 ?_
   refine aw_loopk (ι := { i : Nat // (frm now ≤ i ∧ i ≤ r.kinds.length) ∧ pln r (m2 + 1) now = plan (enough r) (m2 + 1) ((every r.kinds.length).drop i) now }) [1, 2, 3] (fun i => [(9, I i.1)]) (fun H i => H) (fun i => r.kinds.length - i.1) (⟨frm now, ⟨Nat.le_refl _, hfk⟩, rfl⟩) ⟨(by exact less_int (show now[now.length - 1] + 1 = (frm now : Int) by rw [hfe])), jz, jz, jz, trivial⟩ rfl ?_
   rintro ⟨i, hi, heq⟩
   refine nz ?_
   have hnk := gB.nk
   refine wz 5 ?_
   refine iz (fun c_35 c_35' => ?_) (fun c_35 c_35' => ?_)
   ·have hil : i < r.kinds.length := by omega
    refine wz 0 ?_
    refine aw_drawc [] [2, 5] _ mo (by kernel_rfl) (HSub.refl _) ?_
    first | refine dc_ev rfl (ev_load_agg jz rfl ty27.h rfl) ?_ | refine dc_ev rfl (ev_load_agg_i jz ty27.h (by exact Nat.le_of_ble_eq_true rfl)) ?_
    first | refine dc_ev rfl (ev_mv (v := .sl _ _) jz) ?_ | refine dc_ev rfl (ev_mv (v := .own _ _ _) jz) ?_ | refine dc_ev rfl (ev_mv (v := .raw _) jz) ?_ | refine dc_ev rfl (ev_mv (v := .slx _ _) jz) ?_ | refine dc_ev rfl (ev_mv (v := .msl _ _ _ _) jz) ?_
    refine dc_eff rfl rfl (eff_append_new rfl sf28.h Tryz.underlying28 (less_nilx _) jz (by simp; omega) (by simp; omega)) (by apply HL.sub; repeat' (first | exact HL.nil _ | apply HL.same | apply HL.tok)) ?_
    refine dc_ev rfl (ev_mv (v := .raw _) jz) ?_
    refine dc_ev rfl (ev_buildSlice (es := [[_]]) sf28.h rfl rfl rfl rfl) ?_
    refine dc_eff rfl rfl (eff_append rfl sf28.h Tryz.underlying28 rfl rfl (less_slx _ _) (by simp; omega) (by simp; omega)) (by apply HL.sub; repeat' (first | exact HL.nil _ | apply HL.same | apply HL.tok)) ?_
    refine dc_ev rfl (ev_mv (v := .raw _) jz) ?_
    refine dc_ev rfl (ev_call en129.h jz (ih m2 rfl (now ++ [(i : Int)]) (msP_snoc hms hil) (by simp; omega)) ⟨jz, Less.trans (less_own _ _ _) (Less.eq (by simp)), (by exact less_int (by simp; omega)), trivial⟩) ?_
    refine dc_ev rfl (ev_mv (v := .tup _) jz) ?_
    refine dc_ev rfl (ev_extract jz rfl) ?_
    refine dc_ev rfl (ev_extract jz rfl) ?_
    first | refine dc_ev rfl (ev_as (v := .sl _ _) jz) ?_ | refine dc_ev rfl (ev_as (v := .own _ _ _) jz) ?_ | refine dc_ev rfl (ev_as (v := .raw _) jz) ?_ | refine dc_ev rfl (ev_as (v := .slx _ _) jz) ?_ | refine dc_ev rfl (ev_as (v := .msl _ _ _ _) jz) ?_
    refine dc_ev rfl (ev_as (v := .raw _) jz) ?_
    refine dc_nil ?_
    refine wz 1 ?_
    refine iz (fun c_49 c_49' => ?_) (fun c_49 c_49' => ?_)
    ·obtain ⟨p1, p2⟩ := pln_yes hil heq c_49
     refine vz 3 ?_
     refine sq_nil (aw_ret ?_)
     first | exact retQ_pure (v := .tup [.sl _ _, .raw _]) rfl rfl (less_tup ⟨Less.eq (by rw [p1]), Less.eq (by rw [p2]), trivial⟩) | exact retQ_pure (v := .tup [.raw _, .raw _]) rfl rfl (less_tup ⟨Less.trans (less_nil 1) (Less.eq (by rw [p1] <;> rfl)), Less.eq (by rw [p2] <;> rfl), trivial⟩)
    refine wz 3 ?_
    exact ⟨⟨i + 1, by omega, pln_next hil heq c_49⟩, by simp only; omega, sb 1 ⟨jz, jz, jz, jz, trivial⟩⟩
   obtain rfl : i = r.kinds.length := by omega
   obtain ⟨p1, p2⟩ := pln_end heq
   refine vz 2 ?_
   refine sq_nil (aw_ret ?_)
   first | exact retQ_pure (v := .tup [.sl _ _, .raw _]) rfl rfl (less_tup ⟨Less.eq (by rw [p1]), Less.eq (by rw [p2]), trivial⟩) | exact retQ_pure (v := .tup [.raw _, .raw _]) rfl rfl (less_tup ⟨Less.trans (less_nil 1) (Less.eq (by rw [p1] <;> rfl)), Less.eq (by rw [p2] <;> rfl), trivial⟩)
  exfalso
  omega
end Go.Proofs.YtjpokekbjmdgmaaGreatDoor
namespace Go.Proofs.YtjpokekbjmdgmaaGreatDoor
open Go Go.Ab Ni Hd
instance en67 : EnT Tryz.prog 67 := ⟨Ent.of Tryz.func67 (by kernel_rfl) rfl⟩
theorem rplanned_pure {r : Rg} (gB : RgB r) : ∀ (mm : Nat) (now : List Int), msP r now → now.length + mm ≤ 6 → APure Tryz.prog 129 [rgA r, ints now, I (now.length + mm : Nat)] (PR r mm now) := by
  intro mm
  induction mm with
  | zero => exact fun now h1 h2 => (Nat.eq_zero_or_pos now.length).elim (rplanned_nil gB 0 (fun m h => by omega) now h1 h2) (rplanned_cons gB 0 (fun m h => by omega) now h1 h2)
  | succ k ih => exact fun now h1 h2 => (Nat.eq_zero_or_pos now.length).elim (rplanned_nil gB (k + 1) (fun m h => by cases h; exact ih) now h1 h2) (rplanned_cons gB (k + 1) (fun m h => by cases h; exact ih) now h1 h2)
theorem rplanned0 {r : Rg} (gB : RgB r) (m : Nat) (hm : m ≤ 6) : APure Tryz.prog 129 [rgA r, ints [], I m] (PR r m []) := by
  have q := rplanned_pure gB m [] (fun x hx => by cases hx) (by simpa using hm)
  simpa using q
theorem pln_00 (r : Rg) (m : Nat) : pln r m [] = plan (enough r) m (every r.kinds.length) [] := by unfold pln; rw [frm_nil rfl, List.drop_zero]
theorem planOf_yes {r : Rg} {m : Nat} (hm : m < r.kinds.length + 1) (hs : (pln r m []).isSome = true) (hno : ∀ j, j < m → plan (enough r) j (every r.kinds.length) [] = none) : planOf r = some (plL r m []) := by
  obtain ⟨l, hl⟩ := Option.isSome_iff_exists.1 hs
  have e : plL r m [] = l := by unfold plL; rw [hl]
  rw [e]; rw [pln_00] at hl
  exact findSome_range hm hl hno
theorem planOf_no {r : Rg} (hno : ∀ j, j < r.kinds.length + 1 → plan (enough r) j (every r.kinds.length) [] = none) : planOf r = none := List.findSome?_eq_none_iff.2 fun j hj => hno j (List.mem_range.1 hj)
theorem pln_none {r : Rg} {m : Nat} (h : (pln r m []).isSome = false) : plan (enough r) m (every r.kinds.length) [] = none := by rw [← pln_00]; simpa using h
theorem okM_ms {r : Rg} {l : List Int} (h : okM r l = true) : msOK r.kinds.length l := by
  refine ⟨List.pairwise_iff_getElem.2 fun i j hi hj hij => ?_, okM_p h⟩
  unfold okM at h; rw [decide_eq_true_eq] at h
  have rise : ∀ d : Nat, (hd : i + d + 1 < l.length) → l[i] < l[i + d + 1] := by
    intro d
    induction d with
    | zero => intro hd; exact (h (i + 1) hd).2 (by omega)
    | succ d ih =>
      intro hd
      have h1 := ih (by omega)
      have h2 := (h (i + (d + 1) + 1) hd).2 (by omega)
      simp only [Nat.add_sub_cancel] at h2
      exact Int.lt_trans h1 h2
  have e : j = i + (j - i - 1) + 1 := by omega
  have := rise (j - i - 1) (by omega)
  simpa only [← e] using this
theorem ms_len {r : Rg} (gB : RgB r) {l : List Int} (h : msOK r.kinds.length l) : l.length ≤ 6 := by
  have h1 := (ms_sub h).length_le
  have h2 := gB.nk
  rw [every_len] at h1; omega
theorem rplan_pure {r : Rg} (gB : RgB r) : APure Tryz.prog 71 [rgA r] (.tup [ints ((planOf r).getD []), B (planOf r).isSome]) := by
  refine ap Tryz.func71 (fun e0 he0 => ?_)
  refine wz 4 ?_
  refine aw_loopk (ι := { m : Nat // m ≤ r.kinds.length + 1 ∧ ∀ j, j < m → plan (enough r) j (every r.kinds.length) [] = none }) [1] (fun i => [(4, I i.1)]) (fun H i => H) (fun i => r.kinds.length + 1 - i.1) (⟨0, Nat.zero_le _, fun j hj => by omega⟩) ⟨jz, jz, trivial⟩ rfl ?_
  rintro ⟨m, hm, hno⟩
  refine nz ?_
  have hnk := gB.nk
  refine wz 5 ?_
  refine iz (fun c_11 c_11' => ?_) (fun c_11 c_11' => ?_)
  ·have hml : m < r.kinds.length + 1 := by omega
   refine wz 2 ?_
   refine sq_ev rfl (ev_call en129.h jz (rplanned0 gB m (by omega)) ⟨jz, less_nil 1, jz, trivial⟩) ?_
   refine wz 6 ?_
   refine iz (fun c_20 c_20' => ?_) (fun c_20 c_20' => ?_)
   ·have hp := planOf_yes hml c_20 hno
    refine vz 3 ?_
    refine sq_nil (aw_ret ?_)
    first | exact retQ_pure (v := .tup [.sl _ _, .raw _]) rfl rfl (less_tup ⟨Less.eq (by rw [hp] <;> rfl), Less.eq (by rw [hp] <;> rfl), trivial⟩) | exact retQ_pure (v := .tup [.raw _, .raw _]) rfl rfl (less_tup ⟨Less.trans (less_nil 1) (Less.eq (by rw [hp] <;> rfl)), Less.eq (by rw [hp] <;> rfl), trivial⟩)
   refine wz 3 ?_
   exact ⟨⟨m + 1, by omega, fun j hj => by rcases Nat.lt_or_ge j m with q | q; exact hno j q; (obtain rfl : j = m := by omega); exact pln_none c_20⟩, by simp only; omega, Sub.slots ⟨jz, jz, trivial⟩⟩
  obtain rfl : m = r.kinds.length + 1 := by omega
  have hp := planOf_no hno
  refine vz 2 ?_
  refine sq_nil (aw_ret ?_)
  first | exact retQ_pure (v := .tup [.sl _ _, .raw _]) rfl rfl (less_tup ⟨Less.eq (by rw [hp] <;> rfl), Less.eq (by rw [hp] <;> rfl), trivial⟩) | exact retQ_pure (v := .tup [.raw _, .raw _]) rfl rfl (less_tup ⟨Less.trans (less_nil 1) (Less.eq (by rw [hp] <;> rfl)), Less.eq (by rw [hp] <;> rfl), trivial⟩)
theorem rplan_ok {r : Rg} (gB : RgB r) {l : List Int} (h : planOf r = some l) : APure Tryz.prog 71 [rgA r] (.tup [ints l, B true]) := by have q := rplan_pure gB; rw [h] at q; exact q
theorem rplan_no {r : Rg} (gB : RgB r) (h : planOf r = none) : APure Tryz.prog 71 [rgA r] (.tup [ints [], B false]) := by have q := rplan_pure gB; rw [h] at q; exact q
theorem ev_len6 {r : Rg} (gB : RgB r) : (every r.kinds.length).length ≤ 6 := by have := gB.nk; rw [every_len]; omega
theorem rtw_no {r : Rg} (gB : RgB r) (h : enough r (every r.kinds.length) = true) : APure Tryz.prog 69 [rgA r, ints (every r.kinds.length)] (.tup [I 0, I 0, B false]) := by
  have q := rtwins_pure gB (every_p r) (ev_len6 gB)
  have e : twR r (every r.kinds.length) = (0, 0) := by unfold twR; unfold enough at h; rw [Option.isNone_iff_eq_none] at h; rw [h]
  rw [h, e] at q; exact q
theorem rtw_yes {r : Rg} (gB : RgB r) (h : enough r (every r.kinds.length) = false) : APure Tryz.prog 69 [rgA r, ints (every r.kinds.length)] (.tup [I ((twA r (every r.kinds.length)).1 : Nat), I ((twA r (every r.kinds.length)).2 : Nat), B true]) := by
  have q := rtwins_pure gB (every_p r) (ev_len6 gB)
  have e : twR r (every r.kinds.length) = twA r (every r.kinds.length) := by
    unfold twR twA; unfold enough at h
    cases ht : twinsOf r (every r.kinds.length) with
    | none => rw [ht] at h; cases h
    | some p => rfl
  rw [h, e] at q; exact q
theorem meas_b {r : Rg} {l : List Int} (hs : shB r = true) (hl : slimB l = true) {b : Bool} (h : okM r l = b) : APure Tryz.prog 28 [rgA r, ints l] (B b) := by have q := rmeasures_pure r l (shB_len hs).1 (slim_len hl); rw [h] at q; exact q
theorem plan_same {r : Rg} (gB : RgB r) {l : List Int} (h : planOf r = some l) : APure Tryz.prog 37 [ints l, ints l] (B true) := same_t (by have := ms_len gB (planOf_some h).1; omega) (by have := ms_len gB (planOf_some h).1; omega) rfl
theorem law17_a {r : Rg} {ms : List Int} (hs : shB r = false) : APure Tryz.prog 17 [rgA r, ints ms] (B true) := by
  refine ap Tryz.func17 (fun e0 he0 => ?_)
  refine wz 3 ?_
  refine kz az (short_f hs) ?_
  refine wz 7 ?_
  refine kz az (known_pure) ?_
  refine wz 1 ?_
  exact rz rfl jz
theorem law17_b {r : Rg} {ms : List Int} (hs : shB r = true) (hf : slimB ms = false) : APure Tryz.prog 17 [rgA r, ints ms] (B true) := by
  refine ap Tryz.func17 (fun e0 he0 => ?_)
  refine wz 3 ?_
  refine kz az (short_t hs) ?_
  refine wz 3 ?_
  refine ky az (slim_f hf) ?_
  refine wz 3 ?_
  refine kz az (known_pure) ?_
  refine wz 1 ?_
  exact rz rfl jz
theorem law17_c {r : Rg} {ms : List Int} (hs : shB r = true) (hf : slimB ms = true) (hr : rgOK r = false) : APure Tryz.prog 17 [rgA r, ints ms] (B true) := by
  refine ap Tryz.func17 (fun e0 he0 => ?_)
  refine wz 3 ?_
  refine kz az (short_t hs) ?_
  refine wz 3 ?_
  refine ky az (slim_t hf) ?_
  refine wz 4 ?_
  refine kz az (ttwins_bad r (shB_len hs).1 (shB_len hs).2.1 (shB_len hs).2.2 hr) ?_
  refine wz 9 ?_
  refine kz az (enough_bad r ms (shB_len hs).1 (shB_len hs).2.1 (shB_len hs).2.2 (slim_len hf) (by rw [hr]; rfl)) ?_
  refine wz 6 ?_
  refine kz az (plan_bad r (shB_len hs).1 (shB_len hs).2.1 (shB_len hs).2.2 hr) ?_
  refine wz 6 ?_
  refine kz az (reg_f hs hr) ?_
  refine wz 30 ?_
  refine ky az (known_pure) ?_
  refine wz 2 ?_
  exact rz rfl jz
theorem law17_d {r : Rg} {ms : List Int} (hs : shB r = true) (hf : slimB ms = true) (hr : rgOK r = true) {l : List Int} (he : enough r (every r.kinds.length) = true) (hp : planOf r = some l) (hm : okM r ms = false) : APure Tryz.prog 17 [rgA r, ints ms] (B true) := by
  refine ap Tryz.func17 (fun e0 he0 => ?_)
  refine wz 3 ?_
  refine kz az (short_t hs) ?_
  refine wz 3 ?_
  refine ky az (slim_t hf) ?_
  refine wz 4 ?_
  refine kz az (ttwins_no (shB_len hs).1 (shB_len hs).2.1 (shB_len hs).2.2 hr he) ?_
  refine wz 9 ?_
  refine kz az (enough_bad r ms (shB_len hs).1 (shB_len hs).2.1 (shB_len hs).2.2 (slim_len hf) (by rw [hm]; simp)) ?_
  refine wz 6 ?_
  refine kz az (plan_ok (shB_len hs).1 (shB_len hs).2.1 (shB_len hs).2.2 hr hp) ?_
  refine wz 6 ?_
  refine kz az (reg_t hs hr) ?_
  refine wz 2 ?_
  refine aw_draw 11 mo (by kernel_rfl) ?_
  refine dz 2 ?_
  refine dkz az (revery_pure r (shB_len hs).1) ?_
  refine dkz az (rtw_no (rgOK_B hr) he) ?_
  refine dz 7 ?_
  refine wz 33 ?_
  refine kz az (rplan_ok (rgOK_B hr) hp) ?_
  refine wz 24 ?_
  refine ky az (plan_same (rgOK_B hr) hp) ?_
  refine wz 7 ?_
  refine kz az (meas_b hs hf hm) ?_
  refine wz 9 ?_
  refine ky az (known_pure) ?_
  refine wz 2 ?_
  exact rz rfl jz
theorem law17_e {r : Rg} {ms : List Int} (hs : shB r = true) (hf : slimB ms = true) (hr : rgOK r = true) {l : List Int} (he : enough r (every r.kinds.length) = true) (hp : planOf r = some l) (hm : okM r ms = true) : APure Tryz.prog 17 [rgA r, ints ms] (B true) := by
  refine ap Tryz.func17 (fun e0 he0 => ?_)
  refine wz 3 ?_
  refine kz az (short_t hs) ?_
  refine wz 3 ?_
  refine ky az (slim_t hf) ?_
  refine wz 4 ?_
  refine kz az (ttwins_no (shB_len hs).1 (shB_len hs).2.1 (shB_len hs).2.2 hr he) ?_
  refine wz 9 ?_
  refine kz az (enough_ok (shB_len hs).1 (shB_len hs).2.1 (shB_len hs).2.2 (slim_len hf) (by rw [hr, hm]; rfl)) ?_
  refine wz 6 ?_
  refine kz az (plan_ok (shB_len hs).1 (shB_len hs).2.1 (shB_len hs).2.2 hr hp) ?_
  refine wz 6 ?_
  refine kz az (reg_t hs hr) ?_
  refine wz 2 ?_
  refine aw_draw 11 mo (by kernel_rfl) ?_
  refine dz 2 ?_
  refine dkz az (revery_pure r (shB_len hs).1) ?_
  refine dkz az (rtw_no (rgOK_B hr) he) ?_
  refine dz 7 ?_
  refine wz 33 ?_
  refine kz az (rplan_ok (rgOK_B hr) hp) ?_
  refine wz 24 ?_
  refine ky az (plan_same (rgOK_B hr) hp) ?_
  refine wz 7 ?_
  refine kz az (meas_b hs hf hm) ?_
  refine wz 8 ?_
  refine ky az (renough_pure (rgOK_B hr) (okM_p hm) (ms_len (rgOK_B hr) (okM_ms hm))) ?_
  refine wz 3 ?_
  refine sz 166 (fun g16_9 g16_9' => ?_) (fun g16_9 g16_9' => ?_)
  ·refine ky az (known_pure) ?_
   refine wz 2 ?_
   exact rz rfl jz
  exfalso
  simp at g16_9
theorem law17_f {r : Rg} {ms : List Int} (hs : shB r = true) (hf : slimB ms = true) (hr : rgOK r = true) (he : enough r (every r.kinds.length) = false) (hp : planOf r = none) (hm : okM r ms = false) : APure Tryz.prog 17 [rgA r, ints ms] (B true) := by
  refine ap Tryz.func17 (fun e0 he0 => ?_)
  refine wz 3 ?_
  refine kz az (short_t hs) ?_
  refine wz 3 ?_
  refine ky az (slim_t hf) ?_
  refine wz 4 ?_
  refine kz az (ttwins_ok (shB_len hs).1 (shB_len hs).2.1 (shB_len hs).2.2 hr he) ?_
  refine wz 9 ?_
  refine kz az (enough_bad r ms (shB_len hs).1 (shB_len hs).2.1 (shB_len hs).2.2 (slim_len hf) (by rw [hm]; simp)) ?_
  refine wz 6 ?_
  refine kz az (plan_no (shB_len hs).1 (shB_len hs).2.1 (shB_len hs).2.2 hr hp) ?_
  refine wz 6 ?_
  refine kz az (reg_t hs hr) ?_
  refine wz 2 ?_
  refine aw_draw 11 mo (by kernel_rfl) ?_
  refine dz 2 ?_
  refine dkz az (revery_pure r (shB_len hs).1) ?_
  refine dkz az (rtw_yes (rgOK_B hr) he) ?_
  refine dz 7 ?_
  refine wz 25 ?_
  refine sz 108 (fun g9_24 g9_24' => ?_) (fun g9_24 g9_24' => ?_)
  ·exfalso
   simp at g9_24
  refine wz 6 ?_
  refine iz (fun c_114 c_114' => ?_) (fun c_114 c_114' => ?_)
  ·exfalso
   simp at c_114
  refine wz 1 ?_
  refine kz az (rplan_no (rgOK_B hr) hp) ?_
  refine wz 32 ?_
  refine kz az (meas_b hs hf hm) ?_
  refine wz 9 ?_
  refine ky az (known_pure) ?_
  refine wz 2 ?_
  exact rz rfl jz
theorem law17_g {r : Rg} {ms : List Int} (hs : shB r = true) (hf : slimB ms = true) (hr : rgOK r = true) (he : enough r (every r.kinds.length) = false) (hp : planOf r = none) (hm : okM r ms = true) : APure Tryz.prog 17 [rgA r, ints ms] (B true) := by
  refine ap Tryz.func17 (fun e0 he0 => ?_)
  refine wz 3 ?_
  refine kz az (short_t hs) ?_
  refine wz 3 ?_
  refine ky az (slim_t hf) ?_
  refine wz 4 ?_
  refine kz az (ttwins_ok (shB_len hs).1 (shB_len hs).2.1 (shB_len hs).2.2 hr he) ?_
  refine wz 9 ?_
  refine kz az (enough_ok (shB_len hs).1 (shB_len hs).2.1 (shB_len hs).2.2 (slim_len hf) (by rw [hr, hm]; rfl)) ?_
  refine wz 6 ?_
  refine kz az (plan_no (shB_len hs).1 (shB_len hs).2.1 (shB_len hs).2.2 hr hp) ?_
  refine wz 6 ?_
  refine kz az (reg_t hs hr) ?_
  refine wz 2 ?_
  refine aw_draw 11 mo (by kernel_rfl) ?_
  refine dz 2 ?_
  refine dkz az (revery_pure r (shB_len hs).1) ?_
  refine dkz az (rtw_yes (rgOK_B hr) he) ?_
  refine dz 7 ?_
  refine wz 25 ?_
  refine sz 108 (fun g9_24 g9_24' => ?_) (fun g9_24 g9_24' => ?_)
  ·exfalso
   simp at g9_24
  refine wz 6 ?_
  refine iz (fun c_114 c_114' => ?_) (fun c_114 c_114' => ?_)
  ·exfalso
   simp at c_114
  refine wz 1 ?_
  refine kz az (rplan_no (rgOK_B hr) hp) ?_
  refine wz 32 ?_
  refine kz az (meas_b hs hf hm) ?_
  refine wz 8 ?_
  refine ky az (renough_pure (rgOK_B hr) (okM_p hm) (ms_len (rgOK_B hr) (okM_ms hm))) ?_
  refine wz 3 ?_
  refine sz 166 (fun g16_9 g16_9' => ?_) (fun g16_9 g16_9' => ?_)
  ·refine ky az (known_pure) ?_
   refine wz 2 ?_
   exact rz rfl jz
  exfalso
  simp at g16_9
/-- **HideTwins.** -/
theorem law17 (r : Rg) (ms : List Int) : APure Tryz.prog 17 [rgA r, ints ms] (B true) := by
  cases hs : shB r with
  | false => exact law17_a hs
  | true =>
    cases hf : slimB ms with
    | false => exact law17_b hs hf
    | true =>
      cases hr : rgOK r with
      | false => exact law17_c hs hf hr
      | true =>
        have hi := planOf_iff r
        cases hp : planOf r with
        | none =>
          rw [hp] at hi
          cases hm : okM r ms with
          | false => exact law17_f hs hf hr hi hp hm
          | true => exact law17_g hs hf hr hi hp hm
        | some l =>
          rw [hp] at hi
          cases hm : okM r ms with
          | false => exact law17_d hs hf hr hi hp hm
          | true => exact law17_e hs hf hr hi hp hm
end Go.Proofs.YtjpokekbjmdgmaaGreatDoor
