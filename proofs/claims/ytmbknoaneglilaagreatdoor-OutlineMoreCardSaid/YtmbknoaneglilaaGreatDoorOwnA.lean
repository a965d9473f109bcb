/-
  A part of the proof: conditions: none beyond each theorem's own.
-/
import Derived.Test.YtmbknoaneglilaaGreatDoorLogicA
import Derived.Test.YtmbknoaneglilaaGreatDoorLogicB
import Derived.Test.YtmbknoaneglilaaGreatDoorLogicD
import Derived.Deep.Slices
import Derived.OpenShut
import Derived.Carry
import Derived.IntWalk
import Derived.Test.YtmbknoaneglilaaGreatDoorSpecA
import Derived.KernelRfl
import Derived.Lib.LaidTab
import Derived.Lib.ItoaNum
import Derived.Test.YtmbknoaneglilaaGreatDoorProg
import Derived.Test.YtmbknoaneglilaaGreatDoorWalkF
import Derived.Test.YtmbknoaneglilaaGreatDoorLogicC
import Derived.Test.YtmbknoaneglilaaGreatDoorLogicE
import Derived.Test.YtmbknoaneglilaaGreatDoorShelf
import Derived.Test.YtmbknoaneglilaaGreatDoorWalkA
import Derived.Test.YtmbknoaneglilaaGreatDoorWalkB
import Derived.Test.YtmbknoaneglilaaGreatDoorWalkC
import Derived.Test.YtmbknoaneglilaaGreatDoorWalkD
import Derived.Test.YtmbknoaneglilaaGreatDoorWalkE
import Derived.Test.YtmbknoaneglilaaGreatDoorRow
set_option linter.all false
set_option maxRecDepth 100000
set_option maxHeartbeats 8000000
namespace Go.Ab
variable [Tabs]
theorem FW_room (r : Option Nat) (n : Nat) : (FW r).room n := fun _ h => by simp [FW] at h
variable {c : Ctx} {Q : AExit → St → Prop} {s : St}
end Go.Ab
namespace Go.Ab
variable [Tabs]
section tok
variable {c : Ctx} {ops : Array Oper} {Q : AExit → St → Prop} {rest : List Oper} {s : St} {i : Nat}
variable {d : Option Tmp} {t : TypeId} {p : String} {af : Array Edge}
theorem sq_append_new {x y : Operand} {st xt et et' : TypeId} {sz bytes : Nat} {es xs : List (List AV)} (hd : dOK c.nt d = true)
    (hf : SlFact c.P st et sz bytes) (hk : c.P.underlying xt = some (.slice et')) (hx : Less (s.op x) (.slx sz es)) (hy : Less (s.op y) (.sl sz xs))
    (hb : (es.length + xs.length) * bytes ≤ 140737488355328) (h63 : es.length + xs.length ≤ 9223372036854775807)
    (k : SeqWP c ops Q (i + 1) rest (St.put { s with H := s.H ++ [.tok (es ++ xs).length] } d (.own s.H.length sz (es ++ xs)))) : SeqWP c ops Q i (⟨d, .call ⟨.builtin .append, #[x, y], #[st, xt]⟩, t, p, af, none⟩ :: rest) s := by
  rw [List.length_append] at k
  refine sq_op fun e ac hs next hn' => ?_
  have hu := hx e _ (hs.op x)
  have hv := hy e _ (hs.op y)
  have hu' := hu
  rw [Rep] at hu'
  obtain ⟨a, len, hv1, hlen, hnil, hsz, hc⟩ := hu'
  refine ⟨about_FW _ _ _ _ _, ?_⟩
  show Oper.uponIn (FW c.r) 0 c.P _ ac next (lift c Q) (((Oper.semAt c.r ac.eval ⟨d, .call ⟨.builtin .append, #[x, y], #[st, xt]⟩, t, p, af, none⟩)).run c.P e.w)
  rw [semAt_of (by intro c h; cases h)]
  have hex : (execOp ac.eval ⟨d, .call ⟨.builtin .append, #[x, y], #[st, xt]⟩, t, p, af, none⟩).run c.P e.w = ((Builtin.append_ #[st, xt] t #[.slice a len len, ac.eval y]).run c.P e.w).andThen fun v w'' => .ok (.value v) w'' := by
    simp [execOp, resolve, invoke, builtin, hv1]
  rw [hex]
  subst hlen
  rcases Nat.eq_zero_or_pos xs.length with h0 | hpos
  · have : xs = [] := List.length_eq_zero_iff.1 h0
    subst this
    rw [run_append_nothing' hf hk hv (Nat.le_refl _)]
    obtain ⟨e', hw, hG, le, hH, hμ, hs'⟩ := sim_tok hs es.length
    have := Rep.mono le _ (less_slx _ _ _ _ hu)
    rw [hv1, Rep] at this
    obtain ⟨a', len', cap', q1, q2, q3, q4, q5, q6⟩ := this
    cases q1
    show next _ e.w
    rw [← hw]
    refine hn' _ e' _ k (hs'.put hd ?_)
    rw [Rep, List.append_nil]
    refine ⟨a, es.length, es.length, rfl, rfl, Nat.le_refl _, fun h => hnil h, hsz, q6, by rw [hH]; simp, ⟨es.length, by unfold Env.T; rw [hH]; simp [tokOf], Nat.le_refl _⟩, fun _ ad _ hlt => absurd hlt (Nat.lt_irrefl _)⟩
  · obtain ⟨e1, hw1, hG1, le1, hH1, hμ1, hs1⟩ := sim_tok hs 0
    have hlast : e1.H[s.H.length]? = some (.tok 0) := by rw [hH1]; simp
    have hTj : e1.T s.H.length = some 0 := by unfold Env.T; rw [hlast]; rfl
    have hjl : s.H.length < e1.H.length := by rw [hH1]; simp
    have hv' : Rep e1 (.sl sz xs) (ac.eval y) := Rep.mono le1 _ hv
    have hc' : ∀ ad, a = some ad → (es.length ≠ 0 → ad.spot = none) ∧ ElemsAt e1 es ad.block ad.off := fun ad h => ⟨(hc ad h).1, ElemsAt.mono le1 es (hc ad h).2⟩
    obtain ⟨cap', cs, w', hrun, hw, hst, hle2, hcs, hcells, hall⟩ := run_append_row (P := c.P) (t := t) (cap := es.length) hs1.ok hf hk rfl hnil hsz hc' hv' (by omega) hb h63
    have hj : ({ s with H := s.H ++ [.tok 0] } : St).H[s.H.length]? = some (.tok 0) := by simp
    obtain ⟨hsim, hle'⟩ := hs1.grew (j := s.H.length) (b := e1.w.heap.size) (n := 0) (n' := es.length + xs.length) (g := (es.length + xs.length) * sz) (w' := w') hst hj (by omega) (.inr rfl) (by rw [hs1.ok.fresh _ (Nat.le_refl _)]; omega) (by simp [hw]) (by simp [hw])
      (fun b' hb' hne => by rw [hw, Array.getElem?_push, if_neg hne]) (fun m hmlt => by rw [hs1.ok.fresh _ (Nat.le_refl _)] at hmlt; omega) (fun b' hb' h => by simp [hw] at hb'; omega)
    rw [← hw1, hrun]
    have hset : (s.H ++ [AObj.tok 0]).set s.H.length (.tok (es.length + xs.length)) = s.H ++ [.tok (es.length + xs.length)] := by
      rw [List.set_append_right _ _ (Nat.le_refl _)]; simp
    have hsim' : Sim c { s with H := s.H ++ [.tok (es.length + xs.length)] } (e1.grew s.H.length e1.w.heap.size (es.length + xs.length) ((es.length + xs.length) * sz) w') ac := by
      rw [← hset]; exact hsim
    refine hn' _ _ _ k (hsim'.put hd ?_)
    rw [Rep]
    refine ⟨_, _, _, rfl, by simp, hle2, (fun h => by cases h), hall, fun ad had => ?_, by simpa [Env.grew] using hjl, ⟨es.length + xs.length, by rw [Env.grew_T hjl, if_pos rfl], by simp⟩, fun _ ad had hlt => ?_⟩
    · simp only [Option.some.injEq] at had; subst had
      refine ⟨fun _ => rfl, ElemsAt.flat.2 ?_⟩
      have hxt : Ext e1 (e1.row ((es.length + xs.length) * sz) w') := Env.row_ext hs1.ok hw hst
      have le3 : (e1.row ((es.length + xs.length) * sz) w').Le (e1.grew s.H.length e1.w.heap.size (es.length + xs.length) ((es.length + xs.length) * sz) w') := by
        have hT : ∀ i, (e1.row ((es.length + xs.length) * sz) w').T i = e1.T i := fun i => rfl
        refine ⟨by simp [Env.grew, Env.row], fun i hi ht => ?_, fun b' off ho => ⟨ho, rfl⟩, fun i m ht => ?_⟩
        · rw [hT] at ht
          have hij : i ≠ s.H.length := fun h => by subst h; rw [hTj] at ht; cases ht
          rw [Env.grew_T hjl, if_neg hij]; exact ⟨ht, fun _ hb => by simpa [Env.grew, hij, Env.row] using hb⟩
        · rw [hT] at ht
          by_cases hij : i = s.H.length
          · subst hij
            have : m = 0 := by rw [hTj] at ht; exact (Option.some.inj ht).symm
            subst this
            exact ⟨_, by rw [Env.grew_T hjl, if_pos rfl], by omega, fun h => by omega⟩
          · exact ⟨m, by rw [Env.grew_T hjl, if_neg hij]; exact ht, Nat.le_refl _, fun _ => ⟨by simp [Env.grew, hij, Env.row], fun b' cs t _ hh => ⟨rfl, cs, hh, rfl⟩⟩⟩
      exact CellsAt.mono le3 _ hcells
    · simp only [Option.some.injEq] at had; subst had
      exact ⟨by simp [Env.grew], by simp [Env.grew], cs, et, by simp [Env.grew, hw], by simp [hcs]⟩
end tok
section eff
variable {c : Ctx} {Q : AExit → St → Prop} {H : List AObj} {df : List ADef} {ρ : Operand → AV} {d : Option Tmp} {t : TypeId} {p : String} {af : Array Edge}
theorem eff_append_new {x y : Operand} {st xt et et' : TypeId} {sz bytes : Nat} {es xs : List (List AV)} (hd : dOK c.nt d = true)
    (hf : SlFact c.P st et sz bytes) (hk : c.P.underlying xt = some (.slice et')) (hx : Less (ρ x) (.slx sz es)) (hy : Less (ρ y) (.sl sz xs))
    (hb : (es.length + xs.length) * bytes ≤ 140737488355328) (h63 : es.length + xs.length ≤ 9223372036854775807) :
    Eff c Q ⟨d, .call ⟨.builtin .append, #[x, y], #[st, xt]⟩, t, p, af, none⟩ H df ρ (.own H.length sz (es ++ xs)) (H ++ [.tok (es ++ xs).length]) :=
  eff_of rfl fun s hH hop Q k => by
    subst hH
    exact sq_append_new hd hf hk (by rw [hop x (by simp [Op.operands, Call.operands])]; exact hx) (by rw [hop y (by simp [Op.operands, Call.operands])]; exact hy) hb h63 k
end eff
end Go.Ab
namespace Go.Ab
open Go.ChangeShapes Go.WideShapes
variable [Tabs]
theorem env0_ok {w : World} (h : Tabs.is w) (hb : ∀ b, Tabs.blk b → b < w.heap.size) : EnvOK (env0 w) :=
  ⟨fun b hb => by have hb' : w.heap.size ≤ b := hb
                  have : w.heap[b]? = none := by simpa using hb'
                  simp [env0, this], fun i o h => by simp [env0] at h, fun i j b hi => by simp [env0] at hi, fun i b hi => by simp [env0] at hi, h, fun b hk => ⟨hb b hk, fun i hi => by simp [env0] at hi⟩⟩
section
variable {H : Type} {enc : TypeId × Value → H} {P : Program} {w : World} {base : Nat} {spare : Nat → Bool} {held : Bool}
theorem trodAll_stays (hl : laidOutB P = true) {W W' : World} (hheap : ∀ b, b < W.heap.size → W'.heap[b]? = W.heap[b]?) {sp' : Nat → Bool} :
    ∀ {ts : List TypeId} {vs : List Value} {ds : List (DataW H)} {ps : List MemPlace}, (∀ t ∈ ts, P.readableRec t = true ∧ t < P.types.size) → DataW.TrodAll enc P W base (fun _ => true) true ts vs ds ps → (∀ p ∈ ps, p.block < W.heap.size) → (∀ p ∈ ps, sp' p.block = true) →
      DataW.TrodAll enc P W' base sp' true ts vs ds ps
  | [], _, _, _, _, h, _, _ => by
    obtain ⟨rfl, rfl, rfl⟩ := trodAll_nil h
    exact trodAll_mk0
  | t :: ts, _, _, _, ht, h, hlt, hs => by
    obtain ⟨v, vs1, d, ds1, a, b, rfl, rfl, rfl, h1, h2⟩ := trodAll_cons h
    refine trodAll_cons_mk (WideElems.Trod_stays hl (ht t (by simp)).1 (ht t (by simp)).2 h1 (fun p hp => ?_) (fun p hp => hs p (by simp [hp]))) (trodAll_stays hl hheap (fun u hu => ht u (List.mem_cons_of_mem _ hu)) h2 (fun p hp => hlt p (by simp [hp])) (fun p hp => hs p (by simp [hp])))
    have hb := hheap p.block (hlt p (by simp [hp]))
    cases p with
    | cell b o => exact cell?_of_heap hb
    | map b => exact hb
/-- **What a law's row asks of a call that returns true and leaves what it met.** -/
theorem post_true {f : Func} {s : ChangeSpec} {W W' : World} {args : Array Value} {ds gs : List (DataW H)} {before : List MemPlace} {tb : TypeId} (hl : laidOutB P = true) (hread : ∀ t ∈ f.params.toList, P.readableRec t = true ∧ t < P.types.size)
    (hres : f.resultTypes = #[tb]) (htb : P.underlying tb = some .bool) (hvars : s.vars = []) (hspec : (s.fn H ds).results = [.lit (.bool true)] ∧ (s.fn H ds).args = ds ∧ (s.fn H ds).vars = [])
    (hW : DataW.Whole enc P f.params.toList s.vars false W args.toList ds gs before) (hheap : ∀ b, b < W.heap.size → W'.heap[b]? = W.heap[b]?) (hst : Still W W') :
    s.post enc P f false true false false W args (.bool true) W' := by
  have hlt := hW.lt
  have hW0 := hW
  obtain ⟨p, q, h1, h2, rfl, _, _⟩ := hW
  rw [hvars] at h2
  obtain ⟨rfl, rfl⟩ := trodVars_none h2
  simp only [List.append_nil] at hlt
  obtain ⟨e1, e2, e3⟩ := hspec
  refine ⟨ds, [], p ++ [], [], p, [], hW0, ?_, ?_, ?_, ?_, fun h => by cases h⟩
  · rw [List.append_nil, e1, hres]
    exact trodAll_cons_mk (RowKit.shut_bool htb _) trodAll_mk0
  · rw [List.append_nil, e2]
    exact trodAll_stays hl hheap hread h1 hlt (fun p hp => by simpa using hlt p hp)
  · rw [List.append_nil, e3, hvars]; rfl
  · refine ⟨hst.1, hst.2, fun i hi => ?_⟩
    rw [hheap i hi]
    split <;> simp_all
theorem APure.law {f : FuncId} {args : List AV} {W : World} {vs : Array Value} (hc : APure P f args (.raw (.bool true))) (ht : Tabs.is W) (hb : ∀ b, Tabs.blk b → b < W.heap.size) (hr : RepL (env0 W) args vs.toList) :
    Calls P f vs W fun x W' => x = .returned (.bool true) ∧ (∀ b, b < W.heap.size → W'.heap[b]? = W.heap[b]?) ∧ Still W W' := by
  refine ((hc (env0 W) vs (env0_ok ht hb) hr).calls (fun k => FW_room none k)).mono ?_
  rintro x w' ⟨u, e', rfl, rfl, hx, hu⟩
  rw [Rep] at hu; subst hu
  exact ⟨rfl, hx.heap, hx.still⟩
end
end Go.Ab
namespace Go.Ab
variable [Tabs]
section seq
variable {c : Ctx} {ops : Array Oper} {Q : AExit → St → Prop} {rest : List Oper} {s : St} {i : Nat}
variable {d : Option Tmp} {op : Op} {t : TypeId} {p : String} {af : Array Edge}
end seq
section cond
variable {c : Ctx} {Q : AExit → St → Prop} {s : St} {x : Operand} {y z : Code}
end cond
section split
variable {c : Ctx} {ops : Array Oper} {Q : AExit → St → Prop} {s : St} {i : Nat} {l : List Oper}
theorem spn (u : Nat) {α : Type} {m n : α} {_ : Decidable (m ≠ n)} (h1 : decide (m ≠ n) = true → ¬ m = n → SeqWP c ops Q i l s) (h2 : decide (m ≠ n) = false → m = n → SeqWP c ops Q i l s) (hb : Less (sget s.sl u) (.raw (.bool (decide (m ≠ n)))) := by exact J) : SeqWP c ops Q i l s :=
  sq_split u hb (fun h => h1 h (of_decide_eq_true h)) (fun h => h2 h (Classical.byContradiction (of_decide_eq_false h)))
end split
section draw
variable {c : Ctx} {H0 : List AObj} {ops : Array Oper} {Q : AExit → St → Prop} {m i : Nat} {s : St} {rest : List Oper}
variable {d : Option Tmp} {op : Op} {t : TypeId} {p : String} {af : Array Edge}
theorem dn1 {j u : Nat} (hj : gslot ops j = some u) (ht : Nat.blt u c.nt = true) (hb : Less (sget s.sl u) (.raw (.bool false))) (hd : dOK c.nt d = true) (k : DR c H0 ops Q m (i + 1) rest (s.put d (.raw (.tuple #[])))) :
    DR c H0 ops Q m i (⟨d, op, t, p, af, some (j, true)⟩ :: rest) s := dr_no hj ht hb rfl hd k
theorem du {j u : Nat} {want : Bool} (hj : gslot ops j = some u) (ht : Nat.blt u c.nt = true) (hb : Less (sget s.sl u) (.raw (.tuple #[]))) (hd : dOK c.nt d = true) (k : DR c H0 ops Q m (i + 1) rest (s.put d (.raw (.tuple #[])))) :
    DR c H0 ops Q m i (⟨d, op, t, p, af, some (j, want)⟩ :: rest) s := dr_no hj ht hb rfl hd k
end draw
section ex
variable {c : Ctx} {Q : AExit → St → Prop} {K : St → Prop} {s : St} {id j : Nat}
end ex
section app
variable {c : Ctx} {ops : Array Oper} {Q : AExit → St → Prop} {s : St} {i : Nat} {o : Oper} {l m : List Oper} {H0 : List AObj} {k : Nat}
end app
end Go.Ab
namespace Ol
open Ni (inn)
theorem addF_nodup {l : List Int} {n : Int} (h : l.Nodup) : (addF l n).Nodup := by
  unfold addF; split
  · exact h
  · rename_i hn; rw [List.nodup_append]; refine ⟨h, by simp, fun a ha b hb e => ?_⟩
    simp only [List.mem_singleton] at hb; subst hb; subst e; exact hn ha
theorem foldF_nodup : ∀ (l : List Th) (a : List Int), a.Nodup → (l.foldl (fun a t => addF a t.rd.fig) a).Nodup
  | [], _, h => h
  | t :: l, a, h => foldF_nodup l _ (addF_nodup h)
theorem seenF_nodup (l : List Th) : (seenF l).Nodup := foldF_nodup l [] List.nodup_nil
end Ol
namespace Ol
open Ni (inn)
theorem pairI_inv {L : List (List Th)} {i : Nat} (h : pairI L i = none) : ∀ k, i < k → k < L.length → mists (L.getD i []) (L.getD k []) = false := by
  intro k hik hk
  unfold pairI at h
  cases hf : (List.range L.length).find? (fun k => decide (i < k) && mists (L.getD i []) (L.getD k [])) with
  | some q => rw [hf] at h; cases h
  | none =>
    rw [List.find?_eq_none] at hf
    have := hf k (List.mem_range.2 hk)
    simpa [hik] using this
theorem pair_none_inv {L : List (List Th)} (h : pairOf L = none) : ∀ i k, i < k → k < L.length → mists (L.getD i []) (L.getD k []) = false := by
  intro i k hik hk
  unfold pairOf at h
  rw [List.findSome?_eq_none_iff] at h
  exact pairI_inv (h i (List.mem_range.2 (by omega))) k hik hk
theorem missAt_inv {L : List (List Th)} {fig : Nat} {near : Int} (h : missAt L fig near = true) : ∃ t ∈ L.getD fig [], ∃ k, k < L.length ∧ t.rd.p.near = near ∧ k ≠ fig ∧ mist t (L.getD k []) = true := by
  unfold missAt at h
  obtain ⟨t, ht, h⟩ := List.any_eq_true.1 h
  obtain ⟨k, hk, h⟩ := List.any_eq_true.1 h
  simp only [Bool.and_eq_true, decide_eq_true_eq] at h
  exact ⟨t, ht, k, List.mem_range.1 hk, h.1, h.2.1, h.2.2⟩
theorem missAt_of {L : List (List Th)} {fig k : Nat} {t : Th} (ht : t ∈ L.getD fig []) (hk : k < L.length) (hne : k ≠ fig) (h : mist t (L.getD k []) = true) : missAt L fig t.rd.p.near = true := by
  unfold missAt
  refine List.any_eq_true.2 ⟨t, ht, List.any_eq_true.2 ⟨k, List.mem_range.2 hk, ?_⟩⟩
  rw [h]; simp [hne]
end Ol
namespace Ol
open Ni (inn)
theorem wh_le {s : Sg} (hs : stOK s = true) : 1 ≤ s.wide * s.high ∧ s.wide * s.high ≤ 256 := by
  have hb := stOK_iff.1 hs
  have h1 := Int.mul_le_mul hb.1.2 hb.2.1.2 (by omega) (by omega)
  have h2 := Int.mul_le_mul hb.1.1 hb.2.1.1 (by omega) (by omega)
  omega
end Ol
namespace Ol
open Ni (inn)
theorem agree_iff {a b : List (List UInt8)} (hl : a.length ≤ b.length) (hr : ∀ m, (h1 : m < a.length) → (h2 : m < b.length) → a[m].length ≤ b[m].length) :
    agree a b = true ↔ ∀ m k, (h1 : m < a.length) → (h2 : m < b.length) → (h3 : k < a[m].length) → (h4 : k < b[m].length) → opp a[m][k] b[m][k] = false := by
  constructor
  · intro h m k h1 h2 h3 h4
    cases ho : opp a[m][k] b[m][k] with
    | false => rfl
    | true => rw [agree_no h1 h2 h3 h4 ho] at h; cases h
  · intro h
    exact agree_yes fun m k h1 h2 h3 h4 => h m k h1 h2 h3 h4
theorem opp_63 (a : UInt8) : opp a 63 = false := by unfold opp; simp
theorem agree_set {a b : List (List UInt8)} {r c : Nat} {ch : UInt8} (hl : a.length = b.length) (hw : ∀ m, (h1 : m < a.length) → (h2 : m < b.length) → a[m].length = b[m].length)
    (hr : r < b.length) (hc : c < b[r].length) (h63 : b[r][c] = 63) : agree a (b.set r (b[r].set c ch)) = (agree a b && !opp (a[r]'(by omega))[c]! ch) := by
  have hra : r < a.length := by omega
  have hca : c < a[r].length := by rw [hw r hra hr]; exact hc
  have hw' : ∀ m, (h1 : m < a.length) → (h2 : m < (b.set r (b[r].set c ch)).length) → a[m].length ≤ (b.set r (b[r].set c ch))[m].length := fun m h1 h2 => by
    rw [List.getElem_set]
    split
    · rename_i e; subst e; rw [List.length_set, hw r h1 hr]; exact Nat.le_refl _
    · rw [hw m h1 (by simpa using h2)]; exact Nat.le_refl _
  rw [getElem!_pos a[r] c hca, Bool.eq_iff_iff, Bool.and_eq_true, Bool.not_eq_true', agree_iff (by simp; omega) hw', agree_iff (by omega) fun m h1 h2 => by rw [hw m h1 h2]; exact Nat.le_refl _]
  constructor
  · intro h
    constructor
    · intro m k h1 h2 h3 h4
      by_cases e : m = r
      · subst e
        by_cases e2 : k = c
        · subst e2; rw [h63, opp_63]
        · have := h m k h1 (by simpa using h2) h3 (by simpa using h4)
          simpa [List.getElem_set, Ne.symm e2] using this
      · have := h m k h1 (by simpa using h2) h3 (by simpa [List.getElem_set, Ne.symm e] using h4)
        simpa [List.getElem_set, Ne.symm e] using this
    · have := h r c hra (by simpa using hr) hca (by simpa using hc)
      simpa using this
  · rintro ⟨h, ho⟩ m k h1 h2 h3 h4
    by_cases e : m = r
    · subst e
      by_cases e2 : k = c
      · subst e2; simpa using ho
      · have := h m k h1 hr h3 (by rw [← hw m h1 hr]; exact h3)
        simpa [List.getElem_set, Ne.symm e2] using this
    · have hb : m < b.length := by simpa using h2
      have := h m k h1 hb h3 (by rw [← hw m h1 hb]; exact h3)
      simpa [List.getElem_set, Ne.symm e] using this
theorem seenF_sub {l m : List Th} (h : ∀ t ∈ l, t ∈ m) : ∀ n ∈ seenF l, n ∈ seenF m := by
  have key : ∀ (l : List Th) (n : Int), n ∈ seenF l ↔ ∃ t ∈ l, (t.rd.fig : Int) = n := fun l n => by
    have gen : ∀ (l : List Th) (a : List Int), n ∈ l.foldl (fun a t => addF a t.rd.fig) a ↔ n ∈ a ∨ ∃ t ∈ l, (t.rd.fig : Int) = n := fun l => by
      induction l with
      | nil => intro a; simp
      | cons t l ih =>
        intro a
        rw [List.foldl_cons, ih]
        have e : n ∈ addF a t.rd.fig ↔ n ∈ a ∨ (t.rd.fig : Int) = n := by
          unfold addF; split
          · rename_i hm; exact ⟨.inl, fun h => h.elim id fun e => e ▸ hm⟩
          · rw [List.mem_append, List.mem_singleton, eq_comm]
        rw [e]; simp only [List.mem_cons, exists_eq_or_imp, or_assoc]
    rw [seenF, gen]; simp
  intro n hn
  rw [key] at hn ⊢
  obtain ⟨t, ht, e⟩ := hn
  exact ⟨t, h t ht, e⟩
theorem nodup_le {l m : List Int} (hl : l.Nodup) (h : ∀ n ∈ l, n ∈ m) : l.length ≤ m.length := by
  induction l generalizing m with
  | nil => simp
  | cons x l ih =>
    have hx := List.nodup_cons.1 hl
    have := ih (m := m.erase x) hx.2 fun n hn => (List.mem_erase_of_ne (fun e => hx.1 (by rw [e] at hn; exact hn))).2 (h n (by simp [hn]))
    rw [List.length_erase_of_mem (h x (by simp))] at this
    have := List.length_pos_of_mem (h x (by simp))
    rw [List.length_cons]; omega
theorem lenS_mono {l m : List Th} (h : ∀ t ∈ l, t ∈ m) : lenS l ≤ lenS m := by
  have := nodup_le (seenF_nodup l) (seenF_sub h)
  unfold lenS; omega
theorem byF_more {x : Sn} {f : Fg} : byF ⟨x.s, x.l ++ [f], x.r⟩ = byF x ++ [rdN ⟨x.s, x.l ++ [f], x.r⟩ x.l.length] := by
  unfold byF
  rw [List.length_append, List.length_singleton, List.range_succ, List.map_append]
  congr 1
  refine List.map_congr_left fun i hi => ?_
  have hi' := List.mem_range.1 hi
  unfold rdN rdX thrown
  simp only [List.getD, List.getElem?_append_left hi']
end Ol
namespace Ol
open Ni (inn)
namespace Ca
end Ca
theorem more_len {x : Sn} {f : Fg} : (byF ⟨x.s, x.l ++ [f], x.r⟩).length = (byF x).length + 1 := by rw [byF_more]; simp
theorem more_get {x : Sn} {f : Fg} {i : Nat} (h : i < (byF x).length) : (byF ⟨x.s, x.l ++ [f], x.r⟩).getD i [] = (byF x).getD i [] := by
  rw [byF_more]; simp [List.getD, List.getElem?_append_left h]
theorem miss_more {x : Sn} {f : Fg} {fig : Nat} {near : Int} (hf : fig < (byF x).length) (h : missAt (byF x) fig near = true) : missAt (byF ⟨x.s, x.l ++ [f], x.r⟩) fig near = true := by
  obtain ⟨t, ht, k, hk, e, hne, hm⟩ := missAt_inv h
  rw [← e]
  exact missAt_of (k := k) (by rw [more_get hf]; exact ht) (by rw [more_len]; omega) hne (by rw [more_get hk]; exact hm)
theorem told_more {x : Sn} {f : Fg} {fig : Nat} (hf : fig < (byF x).length) : ∀ n ∈ toldOf ⟨x.s, x.l ++ [f], x.r⟩ fig, n ∈ toldOf x fig := by
  intro n hn
  unfold toldOf toldK at hn ⊢
  rw [List.mem_filter] at hn ⊢
  refine ⟨hn.1, ?_⟩
  cases h : missAt (byF x) fig n with
  | false => rfl
  | true => rw [miss_more hf h] at hn; exact absurd hn.2 (by simp)
theorem mis_more {x : Sn} {f : Fg} (h : misOf ⟨x.s, x.l ++ [f], x.r⟩ = none) : misOf x = none := by
  unfold misOf at h ⊢
  refine pair_none fun a ha => pairI_none ha fun j hj haj => ?_
  have := pair_none_inv h a j haj (by rw [more_len]; omega)
  rwa [more_get ha, more_get hj, getD_get ha, getD_get hj] at this
end Ol
namespace Ol
open Ni (inn)
theorem seenF_mem' {l : List Th} {n : Int} : n ∈ seenF l ↔ ∃ t ∈ l, (t.rd.fig : Int) = n := by
  have gen : ∀ (l : List Th) (a : List Int), n ∈ l.foldl (fun a t => addF a t.rd.fig) a ↔ n ∈ a ∨ ∃ t ∈ l, (t.rd.fig : Int) = n := fun l => by
    induction l with
    | nil => intro a; simp
    | cons t l ih =>
      intro a
      rw [List.foldl_cons, ih]
      have e : n ∈ addF a t.rd.fig ↔ n ∈ a ∨ (t.rd.fig : Int) = n := by
        unfold addF; split
        · rename_i hm; exact ⟨.inl, fun h => h.elim id fun e => e ▸ hm⟩
        · rw [List.mem_append, List.mem_singleton, eq_comm]
      rw [e]; simp only [List.mem_cons, exists_eq_or_imp, or_assoc]
  rw [seenF, gen]; simp
theorem wordOf_ne {S : List Int} {i : Nat} : wordOf S i ≠ 1 ↔ (i : Int) ∈ S := by
  unfold wordOf
  by_cases h : (i : Int) ∈ S
  · rw [if_pos h]; refine ⟨fun _ => h, fun _ => ?_⟩
    split <;> decide
  · rw [if_neg h]; exact ⟨fun e => absurd rfl e, fun e => absurd e h⟩
theorem words_len {S : List Int} {n : Nat} (hn : S.Nodup) (h : ∀ k ∈ S, 0 ≤ k ∧ k < n) : (((List.range n).map (wordOf S)).filter fun w => decide (w ≠ 1)).length = S.length := by
  have e : (((List.range n).map (wordOf S)).filter fun w => decide (w ≠ 1)).length = (((List.range n).filter fun (i : Nat) => decide ((i : Int) ∈ S)).map fun (i : Nat) => (i : Int)).length := by
    rw [List.filter_map, List.length_map, List.length_map]
    congr 2
    funext i
    simp only [Function.comp]
    rw [decide_eq_decide]
    exact wordOf_ne
  rw [e]
  apply Nat.le_antisymm
  · refine nodup_le ?_ fun k hk => ?_
    · refine List.pairwise_map.2 (List.Pairwise.imp (fun {a b} (h : a ≠ b) => ?_) (List.Pairwise.filter _ List.nodup_range))
      exact fun e => h (by omega)
    · obtain ⟨i, hi, rfl⟩ := List.mem_map.1 hk
      simpa using (List.mem_filter.1 hi).2
  · refine nodup_le hn fun k hk => ?_
    have := h k hk
    exact List.mem_map.2 ⟨k.toNat, List.mem_filter.2 ⟨List.mem_range.2 (by omega), by rw [decide_eq_true_eq, show ((k.toNat : Nat) : Int) = k by omega]; exact hk⟩, by omega⟩
theorem seen_range {x : Sn} {sight : List (List UInt8)} : ∀ k ∈ seenF (agrees x sight), 0 ≤ k ∧ k < (x.l.length : Int) := fun k hk => by
  obtain ⟨t, ht, e⟩ := seenF_mem'.1 hk
  obtain ⟨i, n, q, hi, _, _, rfl⟩ := rdgs_mem (List.mem_filter.1 ht).1
  have e2 : (thrown x i n q).rd.fig = i := rfl
  rw [e2] at e
  omega
theorem who_len (x : Sn) (sight : List (List UInt8)) : (((whoOf x sight).filter fun w => decide (w ≠ 1)).length : Int) = lenS (agrees x sight) := by
  unfold lenS whoOf
  rw [words_len (seenF_nodup _) seen_range]
theorem rest_sub {w : Int} {L : List Th} {n : Int} {c : UInt8} : ∀ t ∈ restOf w L n c, t ∈ L := fun t ht => (List.mem_filter.1 ht).1
theorem lenS_nn (l : List Th) : 0 ≤ lenS l := by unfold lenS; omega
end Ol
namespace Go.Proofs.YtmbknoaneglilaaGreatDoor
open Go Go.Ab Ni Ol
theorem rin_pure (n lo hi : Int) : APure Tryz.prog 89 [I n, I lo, I hi] (B (inn n lo hi)) := by
 refine apure_of (rs := [.tmp 6]) Tryz.func89 rfl rfl (Nat.le_of_ble_eq_true rfl) (by simp [AV.pureL, AV.pureB, AV.pureE, pureE_map]) (by first | rfl | (simp [AV.pureL, AV.pureB, AV.pureE, pureE_map])) fun e0 he0 => ?_
 refine W 5 ?_
 refine sq_split 10 J (fun g1 => ?_) (fun g1 => ?_)
 ·
  have g1' := g1
  try simp only [qq] at g1'
  refine W 5 ?_
  exact retQ_pure (v := .raw _) rfl rfl (Less.eq (by simp [inn, *]))
 have g1' := g1
 try simp only [qq] at g1'
 refine W 5 ?_
 exact retQ_pure (v := .raw _) rfl rfl (Less.eq (by simp [inn, *]))
theorem rstage_pure (s : Sg) : APure Tryz.prog 24 [stA s] (B (stOK s)) := by
 refine apure_of (rs := [.tmp 2]) Tryz.func24 rfl rfl (Nat.le_of_ble_eq_true rfl) (by simp [AV.pureL, AV.pureB, AV.pureE, pureE_map]) (by first | rfl | (simp [AV.pureL, AV.pureB, AV.pureE, pureE_map])) fun e0 he0 => ?_
 refine W 4 ?_
 refine cl A (rin_pure _ _ _) ?_
 refine W 1 ?_
 refine sq_split 6 J (fun g1 => ?_) (fun g1 => ?_)
 ·
  have g1' := g1
  try simp only [qq] at g1'
  refine W 2 ?_
  refine cy A (rin_pure _ _ _) ?_
  refine W 2 ?_
  refine sq_split 11 J (fun g2 => ?_) (fun g2 => ?_)
  ·
   have g2' := g2
   try simp only [qq] at g2'
   refine W 2 ?_
   refine cy A (rin_pure _ _ _) ?_
   refine W 2 ?_
   refine sq_split 16 J (fun g3 => ?_) (fun g3 => ?_)
   ·
    have g3' := g3
    try simp only [qq] at g3'
    refine W 2 ?_
    refine cy A (rin_pure _ _ _) ?_
    refine W 2 ?_
    refine sq_split 21 J (fun g4 => ?_) (fun g4 => ?_)
    ·
     have g4' := g4
     try simp only [qq] at g4'
     refine W 4 ?_
     refine cy A (rin_pure _ _ _) ?_
     refine W 2 ?_
     refine sq_split 28 J (fun g5 => ?_) (fun g5 => ?_)
     ·
      have g5' := g5
      try simp only [qq] at g5'
      refine W 4 ?_
      refine cy A (rin_pure _ _ _) ?_
      refine W 2 ?_
      exact retQ_pure (v := .raw _) rfl rfl (Less.eq (by simp [stOK, *]))
     have g5' := g5
     try simp only [qq] at g5'
     refine W 7 ?_
     exact retQ_pure (v := .raw _) rfl rfl (Less.eq (by simp [stOK, *]))
    have g4' := g4
    try simp only [qq] at g4'
    refine W 14 ?_
    exact retQ_pure (v := .raw _) rfl rfl (Less.eq (by simp [stOK, *]))
   have g3' := g3
   try simp only [qq] at g3'
   refine W 19 ?_
   exact retQ_pure (v := .raw _) rfl rfl (Less.eq (by simp [stOK, *]))
  have g2' := g2
  try simp only [qq] at g2'
  refine W 24 ?_
  exact retQ_pure (v := .raw _) rfl rfl (Less.eq (by simp [stOK, *]))
 have g1' := g1
 try simp only [qq] at g1'
 refine W 29 ?_
 exact retQ_pure (v := .raw _) rfl rfl (Less.eq (by simp [stOK, *]))
theorem rat_pure (x y : Int) : APure Tryz.prog 31 [I x, I y] (B (awayOK x && awayOK y)) := by
 refine apure_of (rs := [.tmp 4]) Tryz.func31 rfl rfl (Nat.le_of_ble_eq_true rfl) (by simp [AV.pureL, AV.pureB, AV.pureE, pureE_map]) (by first | rfl | (simp [AV.pureL, AV.pureB, AV.pureE, pureE_map])) fun e0 he0 => ?_
 refine W 2 ?_
 refine cl A (rin_pure _ _ _) ?_
 refine W 1 ?_
 refine sq_split 7 J (fun g1 => ?_) (fun g1 => ?_)
 ·
  have g1' := g1
  try simp only [qq] at g1'
  refine W 1 ?_
  refine cy A (rin_pure _ _ _) ?_
  refine W 2 ?_
  exact retQ_pure (v := .raw _) rfl rfl (Less.eq (by simp [awayOK, *]))
 have g1' := g1
 try simp only [qq] at g1'
 refine W 4 ?_
 exact retQ_pure (v := .raw _) rfl rfl (Less.eq (by simp [awayOK, *]))
end Go.Proofs.YtmbknoaneglilaaGreatDoor
namespace Go.Proofs.YtmbknoaneglilaaGreatDoor
open Go Go.Ab Ni Ol
theorem ch_ok {c : UInt8} (h : (c.toNat : Int) = 35 ∨ (c.toNat : Int) = 46) : chOK c = true := by
  unfold chOK; simp only [decide_eq_true_eq]
  exact h.imp (fun h => UInt8.toNat_inj.1 (by show c.toNat = 35; omega)) (fun h => UInt8.toNat_inj.1 (by show c.toNat = 46; omega))
theorem ch_no {c : UInt8} (h : (c.toNat : Int) ≠ 35) (k : (c.toNat : Int) ≠ 46) : chOK c = false := by
  rw [Bool.eq_false_iff]; intro ho; unfold chOK at ho; simp only [decide_eq_true_eq] at ho
  rcases ho with e | e <;> (subst e; first | exact h rfl | exact k rfl)
theorem rfigure_pure (f : Fg) : APure Tryz.prog 25 [fgA f] (B (fgOK f)) := by
  refine apure_of (rs := [.tmp 2]) Tryz.func25 rfl rfl (Nat.le_of_ble_eq_true rfl) (by simp [AV.pureL, AV.pureB, AV.pureE, pureE_map]) (by first | rfl | (simp [AV.pureL, AV.pureB, AV.pureE, pureE_map])) fun e0 he0 => ?_
  refine W 5 ?_
  refine cl A (rin_pure _ _ _) ?_
  refine W 2 ?_
  refine sq_split 11 J (fun g1_5 => ?_) (fun g1_5 => ?_)
  · skip
    have g1_5' := g1_5
    try simp only [qq] at g1_5'
    refine W 10 ?_
    exact retQ_pure (v := .raw _) rfl rfl (Less.eq (by unfold fgOK; simp_all))
  · skip
    have g1_5' := g1_5
    try simp only [qq] at g1_5'
    have h1 : inn f.length 1 6 = true := by simpa using g1_5
    have hlen : 1 ≤ f.length ∧ f.length ≤ 6 := by simp only [inn, Bool.and_eq_true, decide_eq_true_eq] at h1; omega
    have hw0 := w0_eq (f := f) (by omega)
    refine W 2 ?_
    refine sq_yes rfl rfl (less_b g1_5) rfl (ev_index_map (k := 0) sl24.h J J rfl (by omega)) ?_
    refine W 2 ?_
    refine cy A (rin_pure _ _ _) ?_
    refine W 2 ?_
    refine aw_cond J (fun c_19 => ?_) (fun c_19 => ?_)
    · skip
      have c_19' := c_19
      try simp only [qq] at c_19'
      refine W 1 ?_
      exact retQ_pure (v := .raw _) rfl rfl (Less.eq (by unfold fgOK; rw [hw0]; simp_all))
    · skip
      have c_19' := c_19
      try simp only [qq] at c_19'
      have h2 : inn (w0 f) 1 6 = true := by rw [hw0]; simpa using c_19
      refine W 2 ?_
      refine aw_loopk (ι := { k : Nat // k ≤ f.length ∧ ∀ i, (h : i < f.length) → i < k → fgRow (w0 f) f[i] = true }) [1] (fun i => [(3, B ((f.take i.1).any hasH)), (4, I i.1)]) (fun H i => H) (fun i => f.length - i.1) (⟨0, Nat.zero_le _, by omega⟩) ⟨J, J, J, trivial⟩ rfl ?_
      rintro ⟨k, hk, hok⟩
      dsimp only [keepS, St.put, sget, slotsOf, nn1, nn2, nn3, nn4, nn5, nn6, Nat.reduceBEq, Nat.reduceAdd, nn7, nn8]
      refine W 5 ?_
      refine iff (fun c_24 c_24' => ?_) (fun c_24 c_24' => ?_)
      · skip
        refine W 0 ?_
        refine aw_draw 12 mo (by kernel_rfl) ?_
        refine WD 8 ?_
        refine dr_ev rfl (ev_index_map (k := 0) sl24.h J J rfl (by omega)) ?_
        refine WD 3 ?_
        refine W 0 ?_
        refine ifn (fun c_38 c_38' => ?_) (fun c_38 c_38' => ?_)
        · skip
          refine W 1 ?_
          exact retQ_pure (v := .raw _) rfl rfl (Less.eq (by rw [fg_row_bad (k := k) (by omega) (fgRow_len (by rw [hw0]; omega))]))
        · skip
          have hlk : f[k].length ≤ 6 := by simp only [inn, Bool.and_eq_true, decide_eq_true_eq] at h2; omega
          refine W 1 ?_
          refine aw_loopk (ι := { j : Nat // j ≤ f[k].length ∧ ∀ i, (h : i < f[k].length) → i < j → chOK f[k][i] = true }) [1, 4] (fun q => [(3, B ((f.take k).any hasH || (f[k].take q.1).any fun c => decide (c = 35))), (5, I q.1)]) (fun H q => H) (fun q => f[k].length - q.1) (⟨0, Nat.zero_le _, by omega⟩) ⟨(Less.eq (by show B ((f.take k).any hasH) = _; simp)), J, J, J, trivial⟩ rfl ?_
          rintro ⟨j, hj, hoj⟩
          dsimp only [keepS, St.put, sget, slotsOf, nn1, nn2, nn3, nn4, nn5, nn6, Nat.reduceBEq, Nat.reduceAdd, nn7, nn8]
          refine W 8 ?_
          refine iff (fun c_46 c_46' => ?_) (fun c_46 c_46' => ?_)
          · skip
            have hk' : j < f[k].length := by omega
            have eC := any_take (q := fun c => decide (c = 35)) (l := f[k]) (k := j) hk'
            refine W 9 ?_
            refine sq_split 57 J (fun g12_8 => ?_) (fun g12_8 => ?_)
            · skip
              have g12_8' := g12_8
              try simp only [qq] at g12_8'
              refine W 9 ?_
              refine aw_cond J (fun c_66 => ?_) (fun c_66 => ?_)
              · skip
                have c_66' := c_66
                try simp only [qq] at c_66'
                refine W 1 ?_
                exact retQ_pure (v := .raw _) rfl rfl (Less.eq (by rw [fg_row_bad (k := k) (by omega) (fgRow_ch (j := j) hk' (ch_no g12_8' c_66'))]))
              · skip
                have c_66' := c_66
                try simp only [qq] at c_66'
                have hch : chOK f[k][j] = true := ch_ok (.inr (by simpa using c_66))
                refine W 2 ?_
                refine sq_split 68 J (fun g14_1 => ?_) (fun g14_1 => ?_)
                · skip
                  have g14_1' := g14_1
                  try simp only [qq] at g14_1'
                  have eF : B true = B ((f.take k).any hasH || (f[k].take (j + 1)).any fun c => decide (c = 35)) := by rw [eC, ← Bool.or_assoc, g14_1]; rfl
                  refine W 13 ?_
                  exact ⟨⟨j + 1, by omega, fun i h hi => (by by_cases e : i = j; (subst e; exact hch); exact hoj i h (by omega))⟩, by simp only; omega, Sub.slots ⟨(Less.eq eF), J, J, J, trivial⟩⟩
                · skip
                  have g14_1' := g14_1
                  try simp only [qq] at g14_1'
                  have eF : B (decide (((f[k][j]).toNat : Int) = 35)) = B ((f.take k).any hasH || (f[k].take (j + 1)).any fun c => decide (c = 35)) := by rw [eC, ← Bool.or_assoc, g14_1, dec35]; rfl
                  refine W 13 ?_
                  exact ⟨⟨j + 1, by omega, fun i h hi => (by by_cases e : i = j; (subst e; exact hch); exact hoj i h (by omega))⟩, by simp only; omega, Sub.slots ⟨(Less.eq eF), J, J, J, trivial⟩⟩
            · skip
              have g12_8' := g12_8
              try simp only [qq] at g12_8'
              have hch : chOK f[k][j] = true := ch_ok (.inl (by simpa using g12_8))
              refine W 12 ?_
              refine sq_split 68 J (fun g14_1 => ?_) (fun g14_1 => ?_)
              · skip
                have g14_1' := g14_1
                try simp only [qq] at g14_1'
                have eF : B true = B ((f.take k).any hasH || (f[k].take (j + 1)).any fun c => decide (c = 35)) := by rw [eC, ← Bool.or_assoc, g14_1]; rfl
                refine W 13 ?_
                exact ⟨⟨j + 1, by omega, fun i h hi => (by by_cases e : i = j; (subst e; exact hch); exact hoj i h (by omega))⟩, by simp only; omega, Sub.slots ⟨(Less.eq eF), J, J, J, trivial⟩⟩
              · skip
                have g14_1' := g14_1
                try simp only [qq] at g14_1'
                have eF : B (decide (((f[k][j]).toNat : Int) = 35)) = B ((f.take k).any hasH || (f[k].take (j + 1)).any fun c => decide (c = 35)) := by rw [eC, ← Bool.or_assoc, g14_1, dec35]; rfl
                refine W 13 ?_
                exact ⟨⟨j + 1, by omega, fun i h hi => (by by_cases e : i = j; (subst e; exact hch); exact hoj i h (by omega))⟩, by simp only; omega, Sub.slots ⟨(Less.eq eF), J, J, J, trivial⟩⟩
          · skip
            refine V 3 ?_
            refine sq_nil ?_
            have hgood : fgRow (w0 f) f[k] = true := fgRow_ok (by omega) (fun i h => hoj i h (by omega))
            have eA := any_take (q := hasH) (l := f) (k := k) (by omega)
            have eB : hasH f[k] = (f[k].take j).any (fun c => decide (c = 35)) := by unfold hasH; rw [List.take_of_length_le (by omega)]
            exact ⟨⟨k + 1, by omega, fun i h hi => (by by_cases e : i = k; (subst e; exact hgood); exact hok i h (by omega))⟩, by simp only; omega, Sub.slots ⟨(Less.eq (show B ((f.take k).any hasH || (f[k].take j).any fun c => decide (c = 35)) = _ by rw [eA, eB])), J, J, trivial⟩⟩
      · skip
        refine W 2 ?_
        exact retQ_pure (v := .raw _) rfl rfl (Less.eq (by rw [fg_end h1 h2 (fun i h => hok i h (by omega)), show k = f.length by omega, List.take_length]))
end Go.Proofs.YtmbknoaneglilaaGreatDoor
namespace Go.Proofs.YtmbknoaneglilaaGreatDoor
open Go Go.Ab Ni Ol
instance en111 : EnT Tryz.prog 111 := ⟨Ent.of Tryz.func111 (by kernel_rfl) rfl⟩
instance en112 : EnT Tryz.prog 112 := ⟨Ent.of Tryz.func112 (by kernel_rfl) rfl⟩
instance en154 : EnT Tryz.prog 154 := ⟨Ent.of Tryz.func154 (by kernel_rfl) rfl⟩
instance en23 : EnT Tryz.prog 23 := ⟨Ent.of Tryz.func23 (by kernel_rfl) rfl⟩
instance en24 : EnT Tryz.prog 24 := ⟨Ent.of Tryz.func24 (by kernel_rfl) rfl⟩
instance en25 : EnT Tryz.prog 25 := ⟨Ent.of Tryz.func25 (by kernel_rfl) rfl⟩
instance en34 : EnT Tryz.prog 34 := ⟨Ent.of Tryz.func34 (by kernel_rfl) rfl⟩
instance en36 : EnT Tryz.prog 36 := ⟨Ent.of Tryz.func36 (by kernel_rfl) rfl⟩
instance en37 : EnT Tryz.prog 37 := ⟨Ent.of Tryz.func37 (by kernel_rfl) rfl⟩
instance en42 : EnT Tryz.prog 42 := ⟨Ent.of Tryz.func42 (by kernel_rfl) rfl⟩
instance en51 : EnT Tryz.prog 51 := ⟨Ent.of Tryz.func51 (by kernel_rfl) rfl⟩
instance en53 : EnT Tryz.prog 53 := ⟨Ent.of Tryz.func53 (by kernel_rfl) rfl⟩
instance en85 : EnT Tryz.prog 85 := ⟨Ent.of Tryz.func85 (by kernel_rfl) rfl⟩
theorem allT_no {α : Type} {q : α → Bool} {l : List α} {n i : Nat} (hi : i < l.length) (hn : i < n) (h : q l[i] = false) : (l.take n).all q = false := by
  rw [List.all_eq_false]
  have hm : i < (l.take n).length := by rw [List.length_take]; omega
  exact ⟨(l.take n)[i], List.getElem_mem hm, by rw [List.getElem_take, h]; simp⟩
theorem allT_yes {α : Type} {q : α → Bool} {l : List α} {n : Nat} (h : ∀ i, (hi : i < l.length) → i < n → q l[i] = true) : (l.take n).all q = true := by
  rw [List.all_eq_true]
  intro x hx
  obtain ⟨i, hi, rfl⟩ := List.getElem_of_mem hx
  rw [List.length_take] at hi
  rw [List.getElem_take]; exact h i (by omega) (by omega)
def shortB (l : List (List UInt8)) : Bool := (l.take 20).all (fun r => decide (r.length ≤ 20)) && decide (l.length ≤ 18)
def fewB (l : List Fg) : Bool := (l.take 9).all shortB && decide (l.length ≤ 8)
theorem shortB_sz {l : List (List UInt8)} (h : shortB l = true) : l.length ≤ 18 ∧ ∀ r ∈ l, r.length ≤ 20 := by
  unfold shortB at h
  simp only [Bool.and_eq_true, decide_eq_true_eq] at h
  rw [List.take_of_length_le (by omega)] at h
  exact ⟨h.2, fun r hr => by have := List.all_eq_true.1 h.1 r hr; simpa using this⟩
theorem shortB_shp {l : List (List UInt8)} (h : shortB l = true) : shp l := by
  obtain ⟨h1, h2⟩ := shortB_sz h; exact ⟨by omega, fun r hr => by have := h2 r hr; omega⟩
def spn (lo hi : Int) : Bool := decide (lo ≤ hi) && decide (hi - lo < 6)
theorem rcOK_eq (s : Sg) (r : Rc) : rcOK s r = (inn r.nl 0 (s.far - 1) && (inn r.nh 0 (s.far - 1) && (spn r.nl r.nh && ((awayOK r.xl && awayOK r.y) && ((awayOK r.xh && awayOK r.y) && spn r.xl r.xh))))) := by
  unfold rcOK pcOK spOK spn inn awayOK
  rw [Bool.eq_iff_iff]
  simp only [Bool.and_eq_true, decide_eq_true_eq, inn]
  omega
theorem coOK_ref (l : List Fg) : coOK l = (decide (0 < l.length) && ((l.take 6).all fgOK && decide (l.length ≤ 6))) := by
  rw [coOK_eq, Bool.eq_iff_iff]
  simp only [Bool.and_eq_true, inn, decide_eq_true_eq, Bool.not_eq_true', List.any_eq_false, Bool.not_eq_true, Bool.not_eq_false', List.all_eq_true]
  constructor
  · rintro ⟨h1, h2⟩
    exact ⟨by omega, fun f hf => by have := h2 f (List.mem_of_mem_take hf); simpa using this, by omega⟩
  · rintro ⟨h1, h2, h3⟩
    rw [List.take_of_length_le h3] at h2
    exact ⟨by omega, fun f hf => by have := h2 f hf; simp [this]⟩
def askE (x : Sn) (is : Bool) : Int := if (snOK x && is) = true then 0 else 2
theorem snOK_eq (x : Sn) : snOK x = (stOK x.s && (coOK x.l && rcOK x.s x.r)) := by unfold snOK; rw [Bool.and_assoc]
theorem short_pure (l : List (List UInt8)) : APure Tryz.prog 23 [strs l] (B (shortB l)) := by
  refine apure_of (rs := [.tmp 2]) Tryz.func23 rfl rfl (Nat.le_of_ble_eq_true rfl) (by simp [AV.pureL, AV.pureB, AV.pureE, pureE_map]) (by first | rfl | (simp [AV.pureL, AV.pureB, AV.pureE, pureE_map])) fun e0 he0 => ?_
  refine W 2 ?_
  refine aw_loopk (ι := { k : Nat // k ≤ l.length ∧ k ≤ 20 ∧ ∀ i, (h : i < l.length) → i < k → decide (l[i].length ≤ 20) = true }) [0] (fun g => [(3, I g.1)]) (fun H g => H) (fun g => 20 - g.1) (⟨0, Nat.zero_le _, by omega, by omega⟩) ⟨J, J, trivial⟩ rfl ?_
  rintro ⟨k, hk, hok⟩
  dsimp only [keepS, St.put, sget, slotsOf, nn1, nn2, nn3, nn4, nn5, nn6, Nat.reduceBEq, Nat.reduceAdd, nn7, nn8]
  refine W 5 ?_
  refine sq_split 8 J (fun g2_4 => ?_) (fun g2_4 => ?_)
  · skip
    have g2_4' := g2_4
    try simp only [qq] at g2_4'
    have hkL : k < l.length := by omega
    refine W 3 ?_
    refine aw_cond J (fun c_11 => ?_) (fun c_11 => ?_)
    · skip
      have c_11' := c_11
      try simp only [qq] at c_11'
      refine W 6 ?_
      refine iff (fun c_19 c_19' => ?_) (fun c_19 c_19' => ?_)
      · skip
        refine W 1 ?_
        exact retQ_pure (v := .raw _) rfl rfl (Less.eq (by rw [shortB, allT_no (i := k) (n := 20) hkL (by omega) (by simp only [decide_eq_false_iff_not]; omega)]; rfl))
      · skip
        refine V 3 ?_
        refine sq_nil ?_
        have hgood : decide (l[k].length ≤ 20) = true := by simp only [decide_eq_true_eq]; omega
        exact ⟨⟨k + 1, by omega, by omega, fun i h hi => (by by_cases e : i = k; (subst e; exact hgood); exact hok.2 i h (by omega))⟩, by simp only; omega, Sub.slots ⟨J, J, trivial⟩⟩
    · skip
      have c_11' := c_11
      try simp only [qq] at c_11'
      refine W 4 ?_
      exact retQ_pure (v := .raw _) rfl rfl (Less.eq (by rw [shortB, allT_yes (n := 20) (fun i h hi => hok.2 i h (by omega))]; simp; omega))
  · skip
    have g2_4' := g2_4
    try simp only [qq] at g2_4'
    refine W 8 ?_
    exact retQ_pure (v := .raw _) rfl rfl (Less.eq (by rw [shortB, allT_yes (n := 20) (fun i h hi => hok.2 i h (by omega))]; simp; omega))
theorem few_pure (l : List Fg) : APure Tryz.prog 34 [figs l] (B (fewB l)) := by
 refine apure_of (rs := [.tmp 2]) Tryz.func34 rfl rfl (Nat.le_of_ble_eq_true rfl) (by simp [AV.pureL, AV.pureB, AV.pureE, pureE_map]) (by first | rfl | (simp [AV.pureL, AV.pureB, AV.pureE, pureE_map])) fun e0 he0 => ?_
 refine W 2 ?_
 refine aw_loopk (ι := { k : Nat // k ≤ l.length ∧ k ≤ 9 ∧ ∀ i, (h : i < l.length) → i < k → shortB l[i] = true }) [0] (fun g => [(3, I g.1)]) (fun H g => H) (fun g => 9 - g.1) (⟨0, Nat.zero_le _, by omega, by omega⟩) ⟨J, J, trivial⟩ rfl ?_
 rintro ⟨k, hk, hok⟩
 dsimp only [keepS, St.put, sget, slotsOf, nn1, nn2, nn3, nn4, nn5, nn6, Nat.reduceBEq, Nat.reduceAdd, nn7, nn8]
 refine W 5 ?_
 refine sq_split 8 J (fun g2_4 => ?_) (fun g2_4 => ?_)
 ·
  have g2_4' := g2_4
  try simp only [qq] at g2_4'
  have hkL : k < l.length := by omega
  refine W 3 ?_
  refine aw_cond J (fun c_11 => ?_) (fun c_11 => ?_)
  ·
   have c_11' := c_11
   try simp only [qq] at c_11'
   refine W 5 ?_
   refine cl A (short_pure _) ?_
   refine W 1 ?_
   refine aw_cond J (fun c_20 => ?_) (fun c_20 => ?_)
   ·
    have c_20' := c_20
    try simp only [qq] at c_20'
    refine W 1 ?_
    exact retQ_pure (v := .raw _) rfl rfl (Less.eq (by rw [fewB, allT_no (i := k) (n := 9) hkL (by omega) (by simpa using c_20)]; rfl))
   have c_20' := c_20
   try simp only [qq] at c_20'
   refine V 3 ?_
   refine sq_nil ?_
   have hgood : shortB l[k] = true := by simpa using c_20
   exact ⟨⟨k + 1, by omega, by omega, fun i h hi => (by by_cases e : i = k; (subst e; exact hgood); exact hok.2 i h (by omega))⟩, by simp only; omega, Sub.slots ⟨J, J, trivial⟩⟩
  have c_11' := c_11
  try simp only [qq] at c_11'
  refine W 4 ?_
  exact retQ_pure (v := .raw _) rfl rfl (Less.eq (by rw [fewB, allT_yes (n := 9) (fun i h hi => hok.2 i h (by omega))]; simp; omega))
 have g2_4' := g2_4
 try simp only [qq] at g2_4'
 refine W 8 ?_
 exact retQ_pure (v := .raw _) rfl rfl (Less.eq (by rw [fewB, allT_yes (n := 9) (fun i h hi => hok.2 i h (by omega))]; simp; omega))
theorem rfigures_pure (l : List Fg) : APure Tryz.prog 85 [figs l] (B ((l.take 6).all fgOK && decide (l.length ≤ 6))) := by
 refine apure_of (rs := [.tmp 2]) Tryz.func85 rfl rfl (Nat.le_of_ble_eq_true rfl) (by simp [AV.pureL, AV.pureB, AV.pureE, pureE_map]) (by first | rfl | (simp [AV.pureL, AV.pureB, AV.pureE, pureE_map])) fun e0 he0 => ?_
 refine W 2 ?_
 refine aw_loopk (ι := { k : Nat // k ≤ l.length ∧ k ≤ 6 ∧ ∀ i, (h : i < l.length) → i < k → fgOK l[i] = true }) [0] (fun g => [(3, I g.1)]) (fun H g => H) (fun g => 6 - g.1) (⟨0, Nat.zero_le _, by omega, by omega⟩) ⟨J, J, trivial⟩ rfl ?_
 rintro ⟨k, hk, hok⟩
 dsimp only [keepS, St.put, sget, slotsOf, nn1, nn2, nn3, nn4, nn5, nn6, Nat.reduceBEq, Nat.reduceAdd, nn7, nn8]
 refine W 5 ?_
 refine sq_split 8 J (fun g2_4 => ?_) (fun g2_4 => ?_)
 ·
  have g2_4' := g2_4
  try simp only [qq] at g2_4'
  have hkL : k < l.length := by omega
  refine W 3 ?_
  refine aw_cond J (fun c_11 => ?_) (fun c_11 => ?_)
  ·
   have c_11' := c_11
   try simp only [qq] at c_11'
   refine W 4 ?_
   refine cl A (rfigure_pure _) ?_
   refine W 1 ?_
   refine aw_cond J (fun c_19 => ?_) (fun c_19 => ?_)
   ·
    have c_19' := c_19
    try simp only [qq] at c_19'
    refine W 1 ?_
    exact retQ_pure (v := .raw _) rfl rfl (Less.eq (by rw [allT_no (i := k) (n := 6) hkL (by omega) (by simpa using c_19)]; rfl))
   have c_19' := c_19
   try simp only [qq] at c_19'
   refine V 3 ?_
   refine sq_nil ?_
   have hgood : fgOK l[k] = true := by simpa using c_19
   exact ⟨⟨k + 1, by omega, by omega, fun i h hi => (by by_cases e : i = k; (subst e; exact hgood); exact hok.2 i h (by omega))⟩, by simp only; omega, Sub.slots ⟨J, J, trivial⟩⟩
  have c_11' := c_11
  try simp only [qq] at c_11'
  refine W 4 ?_
  exact retQ_pure (v := .raw _) rfl rfl (Less.eq (by rw [allT_yes (n := 6) (fun i h hi => hok.2 i h (by omega))]; simp; omega))
 have g2_4' := g2_4
 try simp only [qq] at g2_4'
 refine W 8 ?_
 exact retQ_pure (v := .raw _) rfl rfl (Less.eq (by rw [allT_yes (n := 6) (fun i h hi => hok.2 i h (by omega))]; simp; omega))
theorem rcompany_pure (l : List Fg) : APure Tryz.prog 111 [figs l] (B (coOK l)) := by
 refine apure_of (rs := [.tmp 2]) Tryz.func111 rfl rfl (Nat.le_of_ble_eq_true rfl) (by simp [AV.pureL, AV.pureB, AV.pureE, pureE_map]) (by first | rfl | (simp [AV.pureL, AV.pureB, AV.pureE, pureE_map])) fun e0 he0 => ?_
 refine W 5 ?_
 refine sq_split 6 J (fun g1_3 => ?_) (fun g1_3 => ?_)
 ·
  have g1_3' := g1_3
  try simp only [qq] at g1_3'
  refine W 1 ?_
  refine cy A (rfigures_pure l) ?_
  refine W 2 ?_
  exact retQ_pure (v := .raw _) rfl rfl (Less.eq (by rw [coOK_ref]; simp [*] <;> (intros; omega)))
 have g1_3' := g1_3
 try simp only [qq] at g1_3'
 refine W 4 ?_
 exact retQ_pure (v := .raw _) rfl rfl (Less.eq (by rw [coOK_ref]; simp [*] <;> (intros; omega)))
theorem rspan_pure (a b : Int) (h1 : -1000 ≤ a ∧ a ≤ 1000) (h2 : -1000 ≤ b ∧ b ≤ 1000) : APure Tryz.prog 154 [.agg [I a, I b]] (B (spn a b)) := by
 refine apure_of (rs := [.tmp 2]) Tryz.func154 rfl rfl (Nat.le_of_ble_eq_true rfl) (by simp [AV.pureL, AV.pureB, AV.pureE, pureE_map]) (by first | rfl | (simp [AV.pureL, AV.pureB, AV.pureE, pureE_map])) fun e0 he0 => ?_
 refine W 8 ?_
 refine sq_split 8 J (fun g1_5 => ?_) (fun g1_5 => ?_)
 ·
  have g1_5' := g1_5
  try simp only [qq] at g1_5'
  refine W 8 ?_
  exact retQ_pure (v := .raw _) rfl rfl (Less.eq (by unfold spn; simp [*]))
 have g1_5' := g1_5
 try simp only [qq] at g1_5'
 refine W 8 ?_
 exact retQ_pure (v := .raw _) rfl rfl (Less.eq (by unfold spn; simp [*]))
theorem rreach_pure (s : Sg) (r : Rc) (h : 2 ≤ s.far ∧ s.far ≤ 40) : APure Tryz.prog 112 [stA s, rcA r] (B (rcOK s r)) := by
 refine apure_of (rs := [.tmp 4]) Tryz.func112 rfl rfl (Nat.le_of_ble_eq_true rfl) (by simp [AV.pureL, AV.pureB, AV.pureE, pureE_map]) (by first | rfl | (simp [AV.pureL, AV.pureB, AV.pureE, pureE_map])) fun e0 he0 => ?_
 refine W 9 ?_
 refine cl A (rin_pure _ _ _) ?_
 refine W 1 ?_
 refine sq_split 12 J (fun g1_7 => ?_) (fun g1_7 => ?_)
 ·
  have g1_7' := g1_7
  try simp only [qq] at g1_7'
  refine W 6 ?_
  refine cy A (rin_pure _ _ _) ?_
  refine W 2 ?_
  refine sq_split 21 J (fun g1_16 => ?_) (fun g1_16 => ?_)
  ·
   have g1_16' := g1_16
   try simp only [qq] at g1_16'
   refine W 2 ?_
   refine cy A (rspan_pure r.nl r.nh (by have := g1_7; unfold inn at this; simp only [Bool.and_eq_true, decide_eq_true_eq] at this; omega) (by have := g1_16; unfold inn at this; simp only [Bool.and_eq_true, decide_eq_true_eq] at this; omega)) ?_
   refine W 2 ?_
   refine sq_split 26 J (fun g1_21 => ?_) (fun g1_21 => ?_)
   ·
    have g1_21' := g1_21
    try simp only [qq] at g1_21'
    refine W 5 ?_
    refine cy A (rat_pure _ _) ?_
    refine W 2 ?_
    refine sq_split 34 J (fun g1_29 => ?_) (fun g1_29 => ?_)
    ·
     have g1_29' := g1_29
     try simp only [qq] at g1_29'
     refine W 5 ?_
     refine cy A (rat_pure _ _) ?_
     refine W 2 ?_
     refine sq_split 42 J (fun g1_37 => ?_) (fun g1_37 => ?_)
     ·
      have g1_37' := g1_37
      try simp only [qq] at g1_37'
      refine W 2 ?_
      refine cy A (rspan_pure r.xl r.xh (by have := g1_29; unfold awayOK inn at this; simp only [Bool.and_eq_true, decide_eq_true_eq] at this; omega) (by have := g1_37; unfold awayOK inn at this; simp only [Bool.and_eq_true, decide_eq_true_eq] at this; omega)) ?_
      refine W 2 ?_
      exact retQ_pure (v := .raw _) rfl rfl (Less.eq (by rw [rcOK_eq]; first | (simp [*]; done) | (cases hq : awayOK r.xh <;> cases hq2 : awayOK r.y <;> simp_all)))
     have g1_37' := g1_37
     try simp only [qq] at g1_37'
     refine W 5 ?_
     exact retQ_pure (v := .raw _) rfl rfl (Less.eq (by rw [rcOK_eq]; first | (simp [*]; done) | (cases hq : awayOK r.xh <;> cases hq2 : awayOK r.y <;> simp_all)))
    have g1_29' := g1_29
    try simp only [qq] at g1_29'
    refine W 13 ?_
    exact retQ_pure (v := .raw _) rfl rfl (Less.eq (by rw [rcOK_eq]; first | (simp [*]; done) | (cases hq : awayOK r.xh <;> cases hq2 : awayOK r.y <;> simp_all)))
   have g1_21' := g1_21
   try simp only [qq] at g1_21'
   refine W 21 ?_
   exact retQ_pure (v := .raw _) rfl rfl (Less.eq (by rw [rcOK_eq]; first | (simp [*]; done) | (cases hq : awayOK r.xh <;> cases hq2 : awayOK r.y <;> simp_all)))
  have g1_16' := g1_16
  try simp only [qq] at g1_16'
  refine W 26 ?_
  exact retQ_pure (v := .raw _) rfl rfl (Less.eq (by rw [rcOK_eq]; first | (simp [*]; done) | (cases hq : awayOK r.xh <;> cases hq2 : awayOK r.y <;> simp_all)))
 have g1_7' := g1_7
 try simp only [qq] at g1_7'
 refine W 35 ?_
 exact retQ_pure (v := .raw _) rfl rfl (Less.eq (by rw [rcOK_eq]; first | (simp [*]; done) | (cases hq : awayOK r.xh <;> cases hq2 : awayOK r.y <;> simp_all)))
theorem asked_pure (x : Sn) (is : Bool) : APure Tryz.prog 36 [stA x.s, figs x.l, rcA x.r, B is] (I (askE x is)) := by
 refine apure_of (rs := [.tmp 8]) Tryz.func36 rfl rfl (Nat.le_of_ble_eq_true rfl) (by simp [AV.pureL, AV.pureB, AV.pureE, pureE_map]) (by first | rfl | (simp [AV.pureL, AV.pureB, AV.pureE, pureE_map])) fun e0 he0 => ?_
 refine W 4 ?_
 refine cl A (rstage_pure x.s) ?_
 refine W 2 ?_
 refine sq_split 12 J (fun g1_3 => ?_) (fun g1_3 => ?_)
 ·
  have g1_3' := g1_3
  try simp only [qq] at g1_3'
  refine W 16 ?_
  exact retQ_pure (v := .raw _) rfl rfl (Less.eq (by unfold askE; rw [snOK_eq]; simp_all))
 have g1_3' := g1_3
 try simp only [qq] at g1_3'
 refine W 1 ?_
 refine cy A (rcompany_pure x.l) ?_
 refine W 3 ?_
 refine sq_split 17 J (fun g1_8 => ?_) (fun g1_8 => ?_)
 ·
  have g1_8' := g1_8
  try simp only [qq] at g1_8'
  refine W 11 ?_
  exact retQ_pure (v := .raw _) rfl rfl (Less.eq (by unfold askE; rw [snOK_eq]; simp_all))
 have g1_8' := g1_8
 try simp only [qq] at g1_8'
 refine W 2 ?_
 refine cy A (rreach_pure x.s x.r (stOK_iff.1 (by simpa using g1_3)).2.2.1) ?_
 refine W 3 ?_
 refine sq_split 23 J (fun g1_14 => ?_) (fun g1_14 => ?_)
 ·
  have g1_14' := g1_14
  try simp only [qq] at g1_14'
  refine W 5 ?_
  exact retQ_pure (v := .raw _) rfl rfl (Less.eq (by unfold askE; rw [snOK_eq]; simp_all))
 have g1_14' := g1_14
 try simp only [qq] at g1_14'
 refine W 3 ?_
 refine aw_cond J (fun c_26 => ?_) (fun c_26 => ?_)
 ·
  have c_26' := c_26
  try simp only [qq] at c_26'
  refine W 1 ?_
  exact retQ_pure (v := .raw _) rfl rfl (Less.eq (by unfold askE; rw [snOK_eq]; simp_all))
 have c_26' := c_26
 try simp only [qq] at c_26'
 refine W 1 ?_
 exact retQ_pure (v := .raw _) rfl rfl (Less.eq (by unfold askE; rw [snOK_eq]; simp_all))
theorem rsight_pure (s : Sg) (l : List (List UInt8)) (hs : shp l) : APure Tryz.prog 37 [stA s, strs l] (B (siOK s l)) := by
 refine apure_of (rs := [.tmp 4]) Tryz.func37 rfl rfl (Nat.le_of_ble_eq_true rfl) (by simp [AV.pureL, AV.pureB, AV.pureE, pureE_map]) (by first | rfl | (simp [AV.pureL, AV.pureB, AV.pureE, pureE_map])) fun e0 he0 => ?_
 refine W 7 ?_
 refine ifn (fun c_12 c_12' => ?_) (fun c_12 c_12' => ?_)
 ·
  refine W 1 ?_
  exact retQ_pure (v := .raw _) rfl rfl (Less.eq (by unfold siOK; rw [decide_eq_false c_12']; rfl))
 have hlen : (l.length : Int) = s.high := by omega
 refine W 1 ?_
 refine aw_loopk (ι := { m : Nat // m ≤ l.length ∧ ∀ i, (h : i < l.length) → i < m → siRow s.wide l[i] = true }) [1, 2] (fun g => [(5, I g.1)]) (fun H g => H) (fun g => l.length - g.1) (⟨0, Nat.zero_le _, by omega⟩) ⟨J, J, J, trivial⟩ rfl ?_
 rintro ⟨m, hm, hok⟩
 dsimp only [keepS, St.put, sget, slotsOf, nn1, nn2, nn3, nn4, nn5, nn6, Nat.reduceBEq, Nat.reduceAdd, nn7, nn8]
 have hs1 := hs.1
 refine W 4 ?_
 refine iff (fun c_16 c_16' => ?_) (fun c_16 c_16' => ?_)
 ·
  have hmL : m < l.length := by omega
  have hrl := hs.2 _ (List.getElem_mem hmL)
  refine W 0 ?_
  refine aw_draw 8 mo (by kernel_rfl) ?_
  refine WD 8 ?_
  refine W 0 ?_
  refine ifn (fun c_26 c_26' => ?_) (fun c_26 c_26' => ?_)
  ·
   refine W 1 ?_
   exact retQ_pure (v := .raw _) rfl rfl (Less.eq (by rw [siOK_bad hmL (by rw [siRow_eq, decide_eq_false (by simpa using c_26')]; rfl)]))
  refine W 1 ?_
  refine aw_loopk (ι := { k : Nat // k ≤ l[m].length ∧ ∀ i, (h : i < l[m].length) → i < k → sBad l[m][i] = false }) [1, 2, 5] (fun g => [(6, I g.1)]) (fun H g => H) (fun g => l[m].length - g.1) (⟨0, Nat.zero_le _, by omega⟩) ⟨J, J, J, J, trivial⟩ rfl ?_
  rintro ⟨k, hk, hok2⟩
  dsimp only [keepS, St.put, sget, slotsOf, nn1, nn2, nn3, nn4, nn5, nn6, Nat.reduceBEq, Nat.reduceAdd, nn7, nn8]
  refine W 7 ?_
  refine iff (fun c_33 c_33' => ?_) (fun c_33 c_33' => ?_)
  ·
   have hkL : k < l[m].length := by omega
   refine W 10 ?_
   refine sq_split 44 J (fun g12_2 => ?_) (fun g12_2 => ?_)
   ·
    have g12_2' := g12_2
    try simp only [qq] at g12_2'
    refine W 4 ?_
    refine sq_split 48 J (fun g12_6 => ?_) (fun g12_6 => ?_)
    ·
     have g12_6' := g12_6
     try simp only [qq] at g12_6'
     refine W 4 ?_
     refine sq_split 52 J (fun g12_10 => ?_) (fun g12_10 => ?_)
     ·
      have g12_10' := g12_10
      try simp only [qq] at g12_10'
      refine W 3 ?_
      refine aw_cond J (fun c_55 => ?_) (fun c_55 => ?_)
      ·
       have c_55' := c_55
       try simp only [qq] at c_55'
       refine W 1 ?_
       exact retQ_pure (v := .raw _) rfl rfl (Less.eq (by rw [siOK_bad hmL (by rw [siRow_eq, List.any_eq_true.2 ⟨_, List.getElem_mem hkL, by rw [sBad_eq]; simp only [dec35n, dec43n, dec46n, dec63n] at *; simp_all⟩]; simp)]))
      have c_55' := c_55
      try simp only [qq] at c_55'
      refine V 3 ?_
      refine sq_nil ?_
      have hgood2 : sBad l[m][k] = false := by rw [sBad_eq]; simp only [dec35n, dec43n, dec46n, dec63n] at *; simp_all
      exact ⟨⟨k + 1, by omega, fun i h hi => (by by_cases e : i = k; (subst e; exact hgood2); exact hok2 i h (by omega))⟩, by simp only; omega, Sub.slots ⟨J, J, J, J, trivial⟩⟩
     have g12_10' := g12_10
     try simp only [qq] at g12_10'
     refine V 7 ?_
     refine sq_nil ?_
     have hgood2 : sBad l[m][k] = false := by rw [sBad_eq]; simp only [dec35n, dec43n, dec46n, dec63n] at *; simp_all
     exact ⟨⟨k + 1, by omega, fun i h hi => (by by_cases e : i = k; (subst e; exact hgood2); exact hok2 i h (by omega))⟩, by simp only; omega, Sub.slots ⟨J, J, J, J, trivial⟩⟩
    have g12_6' := g12_6
    try simp only [qq] at g12_6'
    refine V 11 ?_
    refine sq_nil ?_
    have hgood2 : sBad l[m][k] = false := by rw [sBad_eq]; simp only [dec35n, dec43n, dec46n, dec63n] at *; simp_all
    exact ⟨⟨k + 1, by omega, fun i h hi => (by by_cases e : i = k; (subst e; exact hgood2); exact hok2 i h (by omega))⟩, by simp only; omega, Sub.slots ⟨J, J, J, J, trivial⟩⟩
   have g12_2' := g12_2
   try simp only [qq] at g12_2'
   refine V 15 ?_
   refine sq_nil ?_
   have hgood2 : sBad l[m][k] = false := by rw [sBad_eq]; simp only [dec35n, dec43n, dec46n, dec63n] at *; simp_all
   exact ⟨⟨k + 1, by omega, fun i h hi => (by by_cases e : i = k; (subst e; exact hgood2); exact hok2 i h (by omega))⟩, by simp only; omega, Sub.slots ⟨J, J, J, J, trivial⟩⟩
  refine V 3 ?_
  refine sq_nil ?_
  have hgood : siRow s.wide l[m] = true := by rw [siRow_eq, decide_eq_true (by simpa using c_26'), List.any_eq_false.2 (fun q hq => by obtain ⟨i, hi, rfl⟩ := List.getElem_of_mem hq; simp [hok2 i hi (by omega)])]; rfl
  exact ⟨⟨m + 1, by omega, fun i h hi => (by by_cases e : i = m; (subst e; exact hgood); exact hok i h (by omega))⟩, by simp only; omega, Sub.slots ⟨J, J, J, trivial⟩⟩
 refine W 1 ?_
 exact retQ_pure (v := .raw _) rfl rfl (Less.eq (by rw [siOK_end hlen (fun i hi => hok i hi (by omega))]))
end Go.Proofs.YtmbknoaneglilaaGreatDoor
namespace Go.Proofs.YtmbknoaneglilaaGreatDoor
open Go Go.Ab Ni Ol
instance en40 : EnT Tryz.prog 40 := ⟨Ent.of Tryz.func40 (by kernel_rfl) rfl⟩
def mays (W : List Int) (k : Nat) : Int := (((W.take k).filter fun w => decide (w ≠ 1)).length : Int)
theorem mays_succ {W : List Int} {k : Nat} (h : k < W.length) : mays W (k + 1) = mays W k + (if W[k] ≠ 1 then 1 else 0) := by
  unfold mays; rw [List.take_succ_eq_append_getElem h, List.filter_append]
  by_cases e : W[k] = 1
  · rw [if_neg (by simp [e]), List.filter_cons_of_neg (by simp [e])]; simp
  · rw [if_pos e, List.filter_cons_of_pos (by simp [e])]; simp
theorem mays_bd (W : List Int) (k : Nat) : 0 ≤ mays W k ∧ mays W k ≤ k := by
  unfold mays
  have h := List.length_filter_le (fun w => decide (w ≠ 1)) (W.take k)
  rw [List.length_take] at h
  omega
def seenE (x : Sn) (sight : List (List UInt8)) : Int := if whoE x sight = 7 then 0 else if whoE x sight ≠ 0 ∨ (whoL x sight).length ≠ x.l.length then -1 else mays (whoL x sight) (whoL x sight).length
theorem rcell_pure (s : Sg) (l : List (List UInt8)) (k : Nat) (hs : stOK s = true) (hc : Clo s l) (hk : (k : Int) < s.wide * s.high) : APure Tryz.prog 42 [stA s, strs l, I k] (C (chAt s.wide l k)) := by
 refine apure_of (rs := [.tmp 6]) Tryz.func42 rfl rfl (Nat.le_of_ble_eq_true rfl) (by simp [AV.pureL, AV.pureB, AV.pureE, pureE_map]) (by first | rfl | (simp [AV.pureL, AV.pureB, AV.pureE, pureE_map])) fun e0 he0 => ?_
 have hsb := stOK_iff.1 hs
 have hwh := wh_bd hs
 obtain ⟨h1, h2, h3⟩ := chAt_get hs hc hk
 have hlr : l[k / s.wide.toNat].length = s.wide.toNat := hc.row _ (List.getElem_mem h1)
 refine W 2 ?_
 refine aw_draw 13 mo (by kernel_rfl) ?_
 refine WD 4 ?_
 refine dr_ev rfl (ev_quo (q := ((k / s.wide.toNat : Nat) : Int)) J J (by omega) (quo_nat (by omega) (by omega))) ?_
 refine dr_ev rfl (ev_index_map (k := k / s.wide.toNat) sl24.h J J rfl h1) ?_
 refine WD 4 ?_
 refine dr_ev rfl (ev_less (ev_rem J J (by omega)) (less_int (rem_nat (by omega)))) ?_
 refine WD 2 ?_
 refine W 0 ?_
 exact retQ_pure (v := .raw _) rfl rfl (Less.eq (by rw [h3]))
theorem ropposed_pure (a b : UInt8) : APure Tryz.prog 72 [C a, C b] (B (opp a b)) := by
 refine apure_of (rs := [.tmp 4]) Tryz.func72 rfl rfl (Nat.le_of_ble_eq_true rfl) (by simp [AV.pureL, AV.pureB, AV.pureE, pureE_map]) (by first | rfl | (simp [AV.pureL, AV.pureB, AV.pureE, pureE_map])) fun e0 he0 => ?_
 refine W 4 ?_
 refine sq_split 7 J (fun g1_2 => ?_) (fun g1_2 => ?_)
 ·
  have g1_2' := g1_2
  try simp only [qq] at g1_2'
  refine W 4 ?_
  refine sq_split 11 J (fun g1_6 => ?_) (fun g1_6 => ?_)
  ·
   have g1_6' := g1_6
   try simp only [qq] at g1_6'
   refine W 8 ?_
   exact retQ_pure (v := .raw _) rfl rfl (Less.eq (by unfold opp; simp only [dec35, dec46] at *; simp [*]))
  have g1_6' := g1_6
  try simp only [qq] at g1_6'
  refine W 3 ?_
  refine sq_split 14 J (fun g1_9 => ?_) (fun g1_9 => ?_)
  ·
   have g1_9' := g1_9
   try simp only [qq] at g1_9'
   refine W 5 ?_
   exact retQ_pure (v := .raw _) rfl rfl (Less.eq (by unfold opp; simp only [dec35, dec46] at *; simp [*]))
  have g1_9' := g1_9
  try simp only [qq] at g1_9'
  refine W 5 ?_
  exact retQ_pure (v := .raw _) rfl rfl (Less.eq (by unfold opp; simp only [dec35, dec46] at *; simp [*]))
 have g1_2' := g1_2
 try simp only [qq] at g1_2'
 refine W 7 ?_
 refine sq_split 14 J (fun g1_9 => ?_) (fun g1_9 => ?_)
 ·
  have g1_9' := g1_9
  try simp only [qq] at g1_9'
  refine W 5 ?_
  exact retQ_pure (v := .raw _) rfl rfl (Less.eq (by unfold opp; simp only [dec35, dec46] at *; simp [*]))
 have g1_9' := g1_9
 try simp only [qq] at g1_9'
 refine W 5 ?_
 exact retQ_pure (v := .raw _) rfl rfl (Less.eq (by unfold opp; simp only [dec35, dec46] at *; simp [*]))
theorem has_pure (l : List Int) (n : Int) (hl : l.length ≤ 1000000) : APure Tryz.prog 51 [ints l, I n] (B (decide (n ∈ l))) := by
 refine apure_of (rs := [.tmp 4]) Tryz.func51 rfl rfl (Nat.le_of_ble_eq_true rfl) (by simp [AV.pureL, AV.pureB, AV.pureE, pureE_map]) (by first | rfl | (simp [AV.pureL, AV.pureB, AV.pureE, pureE_map])) fun e0 he0 => ?_
 refine W 2 ?_
 refine aw_loopk (ι := { k : Nat // k ≤ l.length ∧ ∀ i, (h : i < l.length) → i < k → ¬ l[i] = n }) [0, 1] (fun g => [(5, I g.1)]) (fun H g => H) (fun g => l.length - g.1) (⟨0, Nat.zero_le _, by omega⟩) ⟨J, J, J, trivial⟩ rfl ?_
 rintro ⟨k, hk, hok⟩
 dsimp only [keepS, St.put, sget, slotsOf, nn1, nn2, nn3, nn4, nn5, nn6, Nat.reduceBEq, Nat.reduceAdd, nn7, nn8]
 refine W 4 ?_
 refine iff (fun c_9 c_9' => ?_) (fun c_9 c_9' => ?_)
 ·
  have hkL : k < l.length := by omega
  refine W 6 ?_
  refine iff (fun c_17 c_17' => ?_) (fun c_17 c_17' => ?_)
  ·
   refine W 1 ?_
   exact retQ_pure (v := .raw _) rfl rfl (Less.eq (by rw [decide_eq_true (c_17' ▸ List.getElem_mem hkL)]))
  refine W 3 ?_
  exact ⟨⟨k + 1, by omega, fun i h hi => (by by_cases e : i = k; (subst e; exact c_17'); exact hok i h (by omega))⟩, by simp only; omega, Sub.slots ⟨J, J, J, trivial⟩⟩
 refine W 1 ?_
 exact retQ_pure (v := .raw _) rfl rfl (Less.eq (by rw [decide_eq_false (fun h => by obtain ⟨i, hi, e⟩ := List.getElem_of_mem h; exact hok i hi (by omega) e)]))
theorem within_pure (l q : List Int) (hl : l.length ≤ 1000000) (hq : q.length ≤ 1000000) : APure Tryz.prog 53 [ints l, ints q] (B (q.all fun n => decide (n ∈ l))) := by
 refine apure_of (rs := [.tmp 4]) Tryz.func53 rfl rfl (Nat.le_of_ble_eq_true rfl) (by simp [AV.pureL, AV.pureB, AV.pureE, pureE_map]) (by first | rfl | (simp [AV.pureL, AV.pureB, AV.pureE, pureE_map])) fun e0 he0 => ?_
 refine W 2 ?_
 refine aw_loopk (ι := { k : Nat // k ≤ q.length ∧ ∀ i, (h : i < q.length) → i < k → decide (q[i] ∈ l) = true }) [0, 1] (fun g => [(5, I g.1)]) (fun H g => H) (fun g => q.length - g.1) (⟨0, Nat.zero_le _, by omega⟩) ⟨J, J, J, trivial⟩ rfl ?_
 rintro ⟨k, hk, hok⟩
 dsimp only [keepS, St.put, sget, slotsOf, nn1, nn2, nn3, nn4, nn5, nn6, Nat.reduceBEq, Nat.reduceAdd, nn7, nn8]
 refine W 4 ?_
 refine iff (fun c_9 c_9' => ?_) (fun c_9 c_9' => ?_)
 ·
  have hkL : k < q.length := by omega
  refine W 5 ?_
  refine cl A (has_pure l _ hl) ?_
  refine W 1 ?_
  refine aw_cond J (fun c_18 => ?_) (fun c_18 => ?_)
  ·
   have c_18' := c_18
   try simp only [qq] at c_18'
   refine W 1 ?_
   exact retQ_pure (v := .raw _) rfl rfl (Less.eq (by rw [List.all_eq_false.2 ⟨_, List.getElem_mem hkL, by simpa using c_18⟩]))
  have c_18' := c_18
  try simp only [qq] at c_18'
  refine W 3 ?_
  exact ⟨⟨k + 1, by omega, fun i h hi => (by by_cases e : i = k; (subst e; simpa using c_18); exact hok i h (by omega))⟩, by simp only; omega, Sub.slots ⟨J, J, J, trivial⟩⟩
 refine W 1 ?_
 exact retQ_pure (v := .raw _) rfl rfl (Less.eq (by rw [List.all_eq_true.2 fun n hn => by obtain ⟨i, hi, rfl⟩ := List.getElem_of_mem hn; exact hok i hi (by omega)]))
theorem seenw_pure (x : Sn) (sight : List (List UInt8)) (hl : x.l.length ≤ 1000000) (hs : shp sight) : APure Tryz.prog 40 [stA x.s, figs x.l, rcA x.r, strs sight] (I (seenE x sight)) := by
 refine apure_of (rs := [.tmp 8]) Tryz.func40 rfl rfl (Nat.le_of_ble_eq_true rfl) (by simp [AV.pureL, AV.pureB, AV.pureE, pureE_map]) (by first | rfl | (simp [AV.pureL, AV.pureB, AV.pureE, pureE_map])) fun e0 he0 => ?_
 refine W 7 ?_
 refine cl A (who_pure x sight hl hs) ?_
 refine W 7 ?_
 refine iff (fun c_22 c_22' => ?_) (fun c_22 c_22' => ?_)
 ·
  refine W 1 ?_
  exact retQ_pure (v := .raw _) rfl rfl (Less.eq (by unfold seenE; rw [if_pos c_22']))
 refine W 3 ?_
 refine sq_split 25 J (fun g4_2 => ?_) (fun g4_2 => ?_)
 ·
  have g4_2' := g4_2
  try simp only [qq] at g4_2'
  refine W 8 ?_
  exact retQ_pure (v := .raw _) rfl rfl (Less.eq (by unfold seenE; rw [if_neg c_22', if_pos (.inl (by simpa using g4_2'))]))
 have g4_2' := g4_2
 try simp only [qq] at g4_2'
 refine W 6 ?_
 refine aw_cond J (fun c_31 => ?_) (fun c_31 => ?_)
 ·
  have c_31' := c_31
  try simp only [qq] at c_31'
  refine W 1 ?_
  exact retQ_pure (v := .raw _) rfl rfl (Less.eq (by unfold seenE; rw [if_neg c_22', if_pos (.inr (by omega))]))
 have c_31' := c_31
 try simp only [qq] at c_31'
 have hlw : (whoL x sight).length = x.l.length := by omega
 refine W 2 ?_
 refine aw_loopk (ι := { k : Nat // k ≤ (whoL x sight).length }) [9] (fun g => [(11, I (mays (whoL x sight) g.1)), (12, I g.1)]) (fun H g => H) (fun g => (whoL x sight).length - g.1) (⟨0, Nat.zero_le _⟩) ⟨(by exact less_int (by simp [mays])), J, J, trivial⟩ rfl ?_
 rintro ⟨k, hk⟩
 dsimp only [keepS, St.put, sget, slotsOf, nn1, nn2, nn3, nn4, nn5, nn6, Nat.reduceBEq, Nat.reduceAdd, nn7, nn8]
 have hmb := mays_bd (whoL x sight) k
 refine W 4 ?_
 refine iff (fun c_35 c_35' => ?_) (fun c_35 c_35' => ?_)
 ·
  have hkL : k < (whoL x sight).length := by omega
  refine W 5 ?_
  refine ifn (fun c_42 c_42' => ?_) (fun c_42 c_42' => ?_)
  ·
   have eM : mays (whoL x sight) k + 1 = mays (whoL x sight) (k + 1) := by rw [mays_succ hkL, if_pos (by simpa using c_42')]
   refine W 6 ?_
   exact ⟨⟨k + 1, by omega⟩, by simp only; omega, Sub.slots ⟨(by exact less_int eM), J, J, trivial⟩⟩
  have eM : mays (whoL x sight) k = mays (whoL x sight) (k + 1) := by rw [mays_succ hkL, if_neg (by simpa using c_42')]; omega
  refine W 3 ?_
  exact ⟨⟨k + 1, by omega⟩, by simp only; omega, Sub.slots ⟨(by exact less_int eM), J, J, trivial⟩⟩
 obtain rfl : k = (whoL x sight).length := by omega
 refine W 2 ?_
 exact retQ_pure (v := .raw _) rfl rfl (Less.eq (by unfold seenE; rw [if_neg c_22', if_neg (by simp only [not_or, ne_eq, Decidable.not_not]; exact ⟨by simpa using g4_2', hlw⟩)]))
end Go.Proofs.YtmbknoaneglilaaGreatDoor
namespace Go.Proofs.YtmbknoaneglilaaGreatDoor
open Go Go.Ab Ni Ol
instance en27 : EnT Tryz.prog 27 := ⟨Ent.of Tryz.func27 (by kernel_rfl) rfl⟩
end Go.Proofs.YtmbknoaneglilaaGreatDoor
namespace Go.Proofs.YtmbknoaneglilaaGreatDoor
open Go Go.Ab Ni Ol
theorem clo_shp {s : Sg} {l : List (List UInt8)} (hs : stOK s = true) (h : Clo s l) : shp l := by
  have hb := stOK_iff.1 hs
  exact ⟨by rw [h.len]; omega, fun r hr => by rw [h.row r hr]; omega⟩
theorem askE_0 {x : Sn} {is : Bool} : askE x is = 0 ↔ snOK x = true ∧ is = true := by
  unfold askE
  by_cases h : (snOK x && is) = true
  · rw [if_pos h]; simp only [Bool.and_eq_true] at h; simp [h]
  · rw [if_neg h]; simp only [Bool.and_eq_true] at h
    exact ⟨(fun e => by cases e), fun e => absurd e h⟩
theorem told_some {x : Sn} {f : Int} (h : snOK x = true) (hf : 0 ≤ f ∧ f < x.l.length) : tolOK x f = true := tol_3 h (by unfold inn; simp only [Bool.and_eq_true, decide_eq_true_eq]; omega)
theorem toldOf_len {x : Sn} (hx : snOK x = true) (f : Nat) : (toldOf x f).length ≤ 6 := by
  have h4 := rcOK_facts (sn_facts hx).2.2.1
  have a1 : nN x ≤ 6 := by unfold nN; omega
  unfold toldOf
  exact Nat.le_trans (toldK_len _ _ _ _) a1
end Go.Proofs.YtmbknoaneglilaaGreatDoor
namespace Go.Proofs.YtmbknoaneglilaaGreatDoor
open Go Go.Ab Ni Ol
theorem gate_bool {a b : Bool} (h : (a && b) = true) : a = true ∧ b = true := by simpa using h
end Go.Proofs.YtmbknoaneglilaaGreatDoor
namespace Go.Proofs.YtmbknoaneglilaaGreatDoor
open Go Go.Ab Ni Ol
theorem ask_sn {x : Sn} {sight : List (List UInt8)} (hx : snOK x = true) (hs : siOK x.s sight = true) : askOK x sight = true := by unfold askOK; rw [hx, hs]; rfl
theorem seenE_len {x : Sn} {sight : List (List UInt8)} (hx : snOK x = true) (hs : siOK x.s sight = true) : seenE x sight = lenS (agrees x sight) := by
  have ha := ask_sn hx hs
  unfold seenE whoE whoL
  rw [if_pos ha]
  by_cases hn : 0 < (agrees x sight).length
  · have h2 : anyOK x sight = true := by unfold anyOK; simpa using hn
    have hl : (whoOf x sight).length = x.l.length := by unfold whoOf; simp
    rw [if_pos h2, if_pos (⟨ha, h2⟩ : askOK x sight = true ∧ anyOK x sight = true)]
    rw [if_neg (by decide), if_neg (by rw [hl]; simp)]
    unfold mays
    rw [List.take_length]
    exact who_len x sight
  · have h2 : anyOK x sight = false := by unfold anyOK; simpa using hn
    have he : agrees x sight = [] := List.length_eq_zero_iff.1 (by omega)
    rw [h2, he]; rfl
theorem seenC_eq {s : Sg} {l : List (List UInt8)} {k : Nat} {c : UInt8} (h1 : k / s.wide.toNat < l.length) : seenC s.wide l k c = l.set (k / s.wide.toNat) (l[k / s.wide.toNat].set (k % s.wide.toNat) c) := by unfold seenC; rw [getD_get h1]
theorem seenC_agree {s : Sg} {a l : List (List UInt8)} {k : Nat} {c : UInt8} (hs : stOK s = true) (ha : Clo s a) (hl : Clo s l) (hk : (k : Int) < s.wide * s.high) (h63 : chAt s.wide l k = 63) :
    agree a (seenC s.wide l k c) = (agree a l && !opp (chAt s.wide a k) c) := by
  obtain ⟨h1, h2, h3⟩ := chAt_get hs hl hk
  obtain ⟨g1, g2, g3⟩ := chAt_get hs ha hk
  rw [seenC_eq h1, agree_set (by rw [ha.len, hl.len]) (fun m p1 p2 => by rw [ha.row _ (List.getElem_mem p1), hl.row _ (List.getElem_mem p2)]) h1 h2 (by rw [← h3]; exact h63), getElem!_pos a[k / s.wide.toNat] (k % s.wide.toNat) g2, g3]
theorem seenC_agrees {x : Sn} {sight : List (List UInt8)} {k : Nat} {c : UInt8} (hx : snOK x = true) (hs : siOK x.s sight = true) (hk : (k : Int) < x.s.wide * x.s.high) (h63 : chAt x.s.wide sight k = 63) :
    agrees x (seenC x.s.wide sight k c) = restOf x.s.wide (agrees x sight) k c := by
  have hst := (sn_facts hx).2.1
  unfold agrees restOf
  rw [List.filter_filter]
  refine List.filter_congr fun t ht => ?_
  rw [seenC_agree hst (rdgs_clo hx ht) (sight_clo hst hs) hk h63, Bool.and_comm]
theorem siOK_iff {s : Sg} {l : List (List UInt8)} : siOK s l = true ↔ (l.length : Int) = s.high ∧ ∀ r ∈ l, (r.length : Int) = s.wide ∧ ∀ c ∈ r, c = 35 ∨ c = 43 ∨ c = 46 ∨ c = 63 := by
  unfold siOK siRow
  simp only [Bool.and_eq_true, decide_eq_true_eq, List.all_eq_true, Bool.not_eq_true', List.any_eq_false]
  constructor
  · rintro ⟨h1, h2⟩
    refine ⟨h1, fun r hr => ⟨(h2 r hr).1, fun c hc => ?_⟩⟩
    have := (h2 r hr).2 c hc
    by_cases a : c = 35
    · exact .inl a
    · by_cases b : c = 43
      · exact .inr (.inl b)
      · by_cases d : c = 46
        · exact .inr (.inr (.inl d))
        · by_cases e : c = 63
          · exact .inr (.inr (.inr e))
          · exact absurd ⟨a, b, d, e⟩ this
  · rintro ⟨h1, h2⟩
    refine ⟨h1, fun r hr => ⟨(h2 r hr).1, fun c hc h => ?_⟩⟩
    obtain ⟨a, b, d, e⟩ := h
    rcases (h2 r hr).2 c hc with h | h | h | h
    · exact a h
    · exact b h
    · exact d h
    · exact e h
theorem seenC_si {s : Sg} {l : List (List UInt8)} {k : Nat} {c : UInt8} (hs : stOK s = true) (h : siOK s l = true) (hk : (k : Int) < s.wide * s.high) (hc : c = 35 ∨ c = 46) : siOK s (seenC s.wide l k c) = true := by
  obtain ⟨h1, h2, h3⟩ := chAt_get hs (sight_clo hs h) hk
  rw [seenC_eq h1]
  rw [siOK_iff] at h ⊢
  obtain ⟨a, b⟩ := h
  refine ⟨by rw [List.length_set]; exact a, fun r hr => ?_⟩
  rcases List.mem_or_eq_of_mem_set hr with hr | rfl
  · exact b r hr
  · have hb := b _ (List.getElem_mem h1)
    refine ⟨by rw [List.length_set]; exact hb.1, fun d hd => ?_⟩
    rcases List.mem_or_eq_of_mem_set hd with hd | rfl
    · exact hb.2 d hd
    · rcases hc with h | h
      · exact .inl h
      · exact .inr (.inr (.inl h))
theorem si_shp {s : Sg} {l : List (List UInt8)} (hs : stOK s = true) (h : siOK s l = true) : shp l := clo_shp hs (sight_clo hs h)
theorem snw_pure {x : Sn} {sight : List (List UInt8)} (hl : x.l.length ≤ 1000000) (hx : snOK x = true) (hs : siOK x.s sight = true) : APure Tryz.prog 40 [stA x.s, figs x.l, rcA x.r, strs sight] (I (lenS (agrees x sight))) := by
  have := seenw_pure x sight hl (si_shp (sn_facts hx).2.1 hs)
  rwa [seenE_len hx hs] at this
theorem snc_pure {x : Sn} {sight : List (List UInt8)} {k : Nat} {c : UInt8} (hl : x.l.length ≤ 1000000) (hx : snOK x = true) (hs : siOK x.s sight = true) (hk : (k : Int) < x.s.wide * x.s.high) (h63 : chAt x.s.wide sight k = 63) (hc : c = 35 ∨ c = 46) :
    APure Tryz.prog 40 [stA x.s, figs x.l, rcA x.r, strs (seenC x.s.wide sight k c)] (I (lenS (restOf x.s.wide (agrees x sight) k c))) := by
  have := snw_pure hl hx (seenC_si (sn_facts hx).2.1 hs hk hc)
  rwa [seenC_agrees hx hs hk h63] at this
end Go.Proofs.YtmbknoaneglilaaGreatDoor
namespace Go.Proofs.YtmbknoaneglilaaGreatDoor
open Go Go.Ab Ni Ol
abbrev plus (x : Sn) (f : Fg) : Sn := ⟨x.s, x.l ++ [f], x.r⟩
theorem plus_ok {x : Sn} {f : Fg} (h : snOK x = true) (hf : fgOK f = true) (hl : x.l.length < 6) : snOK (plus x f) = true := by
  rw [snOK_eq] at h ⊢
  simp only [Bool.and_eq_true] at h ⊢
  obtain ⟨h1, h2, h3⟩ := h
  refine ⟨h1, ?_, h3⟩
  obtain ⟨h4, h5⟩ := coOK_facts h2
  rw [coOK_ref]
  simp only [Bool.and_eq_true, decide_eq_true_eq, List.all_eq_true, List.length_append, List.length_singleton]
  refine ⟨by omega, fun q hq => ?_, by omega⟩
  have hq := List.mem_of_mem_take hq
  rcases List.mem_append.1 hq with hq | hq
  · obtain ⟨i, hi, rfl⟩ := List.getElem_of_mem hq
    exact h5 i hi
  · rw [List.mem_singleton.1 hq]; exact hf
theorem more_gate (x : Sn) (sight : List (List UInt8)) (n figure : Int) (dark : Bool) (more : Fg) (hg : (fewB x.l && (shortB sight && (shortB more && (decide (askE x (stOK x.s && siOK x.s sight) = 0) && (decide (0 ≤ n ∧ n < x.s.wide * x.s.high) && (fgOK more && (decide ((x.l.length : Int) < 6) && decide (0 ≤ figure ∧ figure < x.l.length)))))))) = false) : APure Tryz.prog 9 [stA x.s, figs x.l, rcA x.r, strs sight, I n, B dark, fgA more, I figure] (B true) := by
  refine apure_of (rs := [.tmp 16]) Tryz.func9 rfl rfl (Nat.le_of_ble_eq_true rfl) (by simp [AV.pureL, AV.pureB, AV.pureE, pureE_map]) (by first | rfl | (simp [AV.pureL, AV.pureB, AV.pureE, pureE_map])) fun e0 he0 => ?_
  refine W 4 ?_
  refine aw_draw 61 mo (by kernel_rfl) ?_
  refine WD 1 ?_
  refine dcl A (few_pure x.l) ?_
  refine WD 2 ?_
  refine dr_split 34 J (fun g1_3 => ?_) (fun g1_3 => ?_)
  · skip
    have g1_3' := g1_3
    try simp only [qq] at g1_3'
    refine WD 57 ?_
    refine W 1 ?_
    refine cl A (known_pure) ?_
    refine W 1 ?_
    exact retQ_pure (v := .raw _) rfl rfl J
  · skip
    have g1_3' := g1_3
    try simp only [qq] at g1_3'
    refine WD 1 ?_
    refine dcy A (short_pure sight) ?_
    refine WD 3 ?_
    refine dr_split 39 J (fun g1_8 => ?_) (fun g1_8 => ?_)
    · skip
      have g1_8' := g1_8
      try simp only [qq] at g1_8'
      refine WD 52 ?_
      refine W 1 ?_
      refine cl A (known_pure) ?_
      refine W 1 ?_
      exact retQ_pure (v := .raw _) rfl rfl J
    · skip
      have g1_8' := g1_8
      try simp only [qq] at g1_8'
      have hsh := shortB_shp (by simpa using g1_8)
      refine WD 2 ?_
      refine dcy A (short_pure more) ?_
      refine WD 3 ?_
      refine dr_split 45 J (fun g1_14 => ?_) (fun g1_14 => ?_)
      · skip
        have g1_14' := g1_14
        try simp only [qq] at g1_14'
        refine WD 46 ?_
        refine W 1 ?_
        refine cl A (known_pure) ?_
        refine W 1 ?_
        exact retQ_pure (v := .raw _) rfl rfl J
      · skip
        have g1_14' := g1_14
        try simp only [qq] at g1_14'
        refine WD 4 ?_
        refine dcy A (rstage_pure x.s) ?_
        refine WD 1 ?_
        refine dr_split 51 J (fun g1_20 => ?_) (fun g1_20 => ?_)
        · skip
          have g1_20' := g1_20
          try simp only [qq] at g1_20'
          refine WD 2 ?_
          refine dcy A (rsight_pure x.s sight hsh) ?_
          refine WD 1 ?_
          refine dcy A (asked_pure x _) ?_
          refine WD 3 ?_
          refine dr_split 59 J (fun g1_28 => ?_) (fun g1_28 => ?_)
          · skip
            have g1_28' := g1_28
            try simp only [qq] at g1_28'
            refine WD 32 ?_
            refine W 1 ?_
            refine cl A (known_pure) ?_
            refine W 1 ?_
            exact retQ_pure (v := .raw _) rfl rfl J
          · skip
            have g1_28' := g1_28
            try simp only [qq] at g1_28'
            have hq := askE_0.1 (by simpa using g1_28)
            have hwh := wh_bd (sn_facts hq.1).2.1
            refine WD 4 ?_
            refine dr_split 63 J (fun g1_32 => ?_) (fun g1_32 => ?_)
            · skip
              have g1_32' := g1_32
              try simp only [qq] at g1_32'
              refine WD 28 ?_
              refine W 1 ?_
              refine cl A (known_pure) ?_
              refine W 1 ?_
              exact retQ_pure (v := .raw _) rfl rfl J
            · skip
              have g1_32' := g1_32
              try simp only [qq] at g1_32'
              refine WD 9 ?_
              refine dr_split 72 J (fun g1_41 => ?_) (fun g1_41 => ?_)
              · skip
                have g1_41' := g1_41
                try simp only [qq] at g1_41'
                refine WD 19 ?_
                refine W 1 ?_
                refine cl A (known_pure) ?_
                refine W 1 ?_
                exact retQ_pure (v := .raw _) rfl rfl J
              · skip
                have g1_41' := g1_41
                try simp only [qq] at g1_41'
                refine WD 1 ?_
                refine dcy A (rfigure_pure more) ?_
                refine WD 3 ?_
                refine dr_split 77 J (fun g1_46 => ?_) (fun g1_46 => ?_)
                · skip
                  have g1_46' := g1_46
                  try simp only [qq] at g1_46'
                  refine WD 14 ?_
                  refine W 1 ?_
                  refine cl A (known_pure) ?_
                  refine W 1 ?_
                  exact retQ_pure (v := .raw _) rfl rfl J
                · skip
                  have g1_46' := g1_46
                  try simp only [qq] at g1_46'
                  refine WD 5 ?_
                  refine dr_split 82 J (fun g1_51 => ?_) (fun g1_51 => ?_)
                  · skip
                    have g1_51' := g1_51
                    try simp only [qq] at g1_51'
                    refine WD 9 ?_
                    refine W 1 ?_
                    refine cl A (known_pure) ?_
                    refine W 1 ?_
                    exact retQ_pure (v := .raw _) rfl rfl J
                  · skip
                    have g1_51' := g1_51
                    try simp only [qq] at g1_51'
                    refine WD 4 ?_
                    refine dr_split 86 J (fun g1_55 => ?_) (fun g1_55 => ?_)
                    · skip
                      have g1_55' := g1_55
                      try simp only [qq] at g1_55'
                      refine WD 5 ?_
                      refine W 1 ?_
                      refine cl A (known_pure) ?_
                      refine W 1 ?_
                      exact retQ_pure (v := .raw _) rfl rfl J
                    · skip
                      have g1_55' := g1_55
                      try simp only [qq] at g1_55'
                      refine WD 5 ?_
                      refine W 0 ?_
                      refine aw_cond J (fun c_91 => ?_) (fun c_91 => ?_)
                      · skip
                        have c_91' := c_91
                        try simp only [qq] at c_91'
                        refine W 0 ?_
                        refine cl A (known_pure) ?_
                        refine W 1 ?_
                        exact retQ_pure (v := .raw _) rfl rfl J
                      · skip
                        have c_91' := c_91
                        try simp only [qq] at c_91'
                        first | (exfalso; simp_all; done) | (exfalso; simp_all; omega)
        · skip
          have g1_20' := g1_20
          try simp only [qq] at g1_20'
          refine WD 4 ?_
          refine dcy A (asked_pure x _) ?_
          refine WD 3 ?_
          refine dr_split 59 J (fun g1_28 => ?_) (fun g1_28 => ?_)
          · skip
            have g1_28' := g1_28
            try simp only [qq] at g1_28'
            refine WD 32 ?_
            refine W 1 ?_
            refine cl A (known_pure) ?_
            refine W 1 ?_
            exact retQ_pure (v := .raw _) rfl rfl J
          · skip
            have g1_28' := g1_28
            try simp only [qq] at g1_28'
            have hq := askE_0.1 (by simpa using g1_28)
            have hwh := wh_bd (sn_facts hq.1).2.1
            refine WD 4 ?_
            refine dr_split 63 J (fun g1_32 => ?_) (fun g1_32 => ?_)
            · skip
              have g1_32' := g1_32
              try simp only [qq] at g1_32'
              refine WD 28 ?_
              refine W 1 ?_
              refine cl A (known_pure) ?_
              refine W 1 ?_
              exact retQ_pure (v := .raw _) rfl rfl J
            · skip
              have g1_32' := g1_32
              try simp only [qq] at g1_32'
              refine WD 9 ?_
              refine dr_split 72 J (fun g1_41 => ?_) (fun g1_41 => ?_)
              · skip
                have g1_41' := g1_41
                try simp only [qq] at g1_41'
                refine WD 19 ?_
                refine W 1 ?_
                refine cl A (known_pure) ?_
                refine W 1 ?_
                exact retQ_pure (v := .raw _) rfl rfl J
              · skip
                have g1_41' := g1_41
                try simp only [qq] at g1_41'
                refine WD 1 ?_
                refine dcy A (rfigure_pure more) ?_
                refine WD 3 ?_
                refine dr_split 77 J (fun g1_46 => ?_) (fun g1_46 => ?_)
                · skip
                  have g1_46' := g1_46
                  try simp only [qq] at g1_46'
                  refine WD 14 ?_
                  refine W 1 ?_
                  refine cl A (known_pure) ?_
                  refine W 1 ?_
                  exact retQ_pure (v := .raw _) rfl rfl J
                · skip
                  have g1_46' := g1_46
                  try simp only [qq] at g1_46'
                  refine WD 5 ?_
                  refine dr_split 82 J (fun g1_51 => ?_) (fun g1_51 => ?_)
                  · skip
                    have g1_51' := g1_51
                    try simp only [qq] at g1_51'
                    refine WD 9 ?_
                    refine W 1 ?_
                    refine cl A (known_pure) ?_
                    refine W 1 ?_
                    exact retQ_pure (v := .raw _) rfl rfl J
                  · skip
                    have g1_51' := g1_51
                    try simp only [qq] at g1_51'
                    refine WD 4 ?_
                    refine dr_split 86 J (fun g1_55 => ?_) (fun g1_55 => ?_)
                    · skip
                      have g1_55' := g1_55
                      try simp only [qq] at g1_55'
                      refine WD 5 ?_
                      refine W 1 ?_
                      refine cl A (known_pure) ?_
                      refine W 1 ?_
                      exact retQ_pure (v := .raw _) rfl rfl J
                    · skip
                      have g1_55' := g1_55
                      try simp only [qq] at g1_55'
                      refine WD 5 ?_
                      refine W 0 ?_
                      refine aw_cond J (fun c_91 => ?_) (fun c_91 => ?_)
                      · skip
                        have c_91' := c_91
                        try simp only [qq] at c_91'
                        refine W 0 ?_
                        refine cl A (known_pure) ?_
                        refine W 1 ?_
                        exact retQ_pure (v := .raw _) rfl rfl J
                      · skip
                        have c_91' := c_91
                        try simp only [qq] at c_91'
                        first | (exfalso; simp_all; done) | (exfalso; simp_all; omega)
theorem more_35y {x : Sn} {sight : List (List UInt8)} {n : Nat} {figure a b g1 g2 h1 h2 g h : Int} {more : Fg} {t u : List Int} (hst : stOK x.s = true) (hclo : Clo x.s sight) (hn : (n : Int) < x.s.wide * x.s.high) (hwh : 1 ≤ x.s.wide * x.s.high ∧ x.s.wide * x.s.high ≤ 256) (hl6 : x.l.length < 6) (hfig : 0 ≤ figure ∧ figure < x.l.length)
    (k34 : APure Tryz.prog 34 [figs x.l] (B true)) (k23 : APure Tryz.prog 23 [strs sight] (B true)) (k23' : APure Tryz.prog 23 [strs more] (B true)) (k24 : APure Tryz.prog 24 [stA x.s] (B true)) (k37 : APure Tryz.prog 37 [stA x.s, strs sight] (B true)) (k36 : APure Tryz.prog 36 [stA x.s, figs x.l, rcA x.r, B true] (I 0)) (k25 : APure Tryz.prog 25 [fgA more] (B true))
    (k40 : APure Tryz.prog 40 [stA x.s, figs x.l, rcA x.r, strs sight] (I a)) (k45 : APure Tryz.prog 45 [stA x.s, figs x.l, rcA x.r, I figure] (.tup [ints t, I 0])) (k45' : APure Tryz.prog 45 [stA x.s, figs (x.l ++ [more]), rcA x.r, I figure] (.tup [ints u, I 0]))
    (k44 : APure Tryz.prog 44 [stA x.s, figs x.l, rcA x.r] (.tup [I g1, I g2, I g])) (k44' : APure Tryz.prog 44 [stA x.s, figs (x.l ++ [more]), rcA x.r] (.tup [I h1, I h2, I h])) (k53 : APure Tryz.prog 53 [ints t, ints u] (B true))
    (ha : 0 ≤ a) (ht : t.length ≤ 6) (hu : u.length ≤ 6) (hgh : (g = 0 ∧ h = 0) ∨ (g = 5 ∧ (h = 0 ∨ h = 5))) (hb : 0 ≤ b ∧ b ≤ a) (k42 : APure Tryz.prog 42 [stA x.s, strs sight, I (n : Int)] (C 63)) (k40' : APure Tryz.prog 40 [stA x.s, figs x.l, rcA x.r, strs (seenC x.s.wide sight n 35)] (I b)) : APure Tryz.prog 9 [stA x.s, figs x.l, rcA x.r, strs sight, I (n : Int), B true, fgA more, I figure] (B true) := by
  refine apure_of (rs := [.tmp 16]) Tryz.func9 rfl rfl (Nat.le_of_ble_eq_true rfl) (by simp [AV.pureL, AV.pureB, AV.pureE, pureE_map]) (by first | rfl | (simp [AV.pureL, AV.pureB, AV.pureE, pureE_map])) fun e0 he0 => ?_
  refine W 4 ?_
  refine aw_draw 61 mo (by kernel_rfl) ?_
  refine WD 1 ?_
  refine dcl A (k34) ?_
  refine WD 3 ?_
  refine dcy A (k23) ?_
  refine WD 5 ?_
  refine dcy A (k23') ?_
  refine WD 7 ?_
  refine dcy A (k24) ?_
  refine WD 3 ?_
  refine dcy A (k37) ?_
  refine WD 1 ?_
  refine dcy A (k36) ?_
  refine WD 7 ?_
  refine dr_split 63 J (fun g1_32 => ?_) (fun g1_32 => ?_)
  · skip
    have g1_32' := g1_32
    try simp only [qq] at g1_32'
    first | exact absurd g1_32 (by decide) | (exfalso; simp at g1_32; done) | (exfalso; simp at g1_32; omega) | (exfalso; simp_all; done) | (exfalso; simp_all; omega)
  · skip
    have g1_32' := g1_32
    try simp only [qq] at g1_32'
    refine WD 9 ?_
    refine dr_split 72 J (fun g1_41 => ?_) (fun g1_41 => ?_)
    · skip
      have g1_41' := g1_41
      try simp only [qq] at g1_41'
      first | exact absurd g1_41 (by decide) | (exfalso; simp at g1_41; done) | (exfalso; simp at g1_41; omega) | (exfalso; simp_all; done) | (exfalso; simp_all; omega)
    · skip
      have g1_41' := g1_41
      try simp only [qq] at g1_41'
      refine WD 1 ?_
      refine dcy A (k25) ?_
      refine WD 8 ?_
      refine dr_split 82 J (fun g1_51 => ?_) (fun g1_51 => ?_)
      · skip
        have g1_51' := g1_51
        try simp only [qq] at g1_51'
        first | exact absurd g1_51 (by decide) | (exfalso; simp at g1_51; done) | (exfalso; simp at g1_51; omega) | (exfalso; simp_all; done) | (exfalso; simp_all; omega)
      · skip
        have g1_51' := g1_51
        try simp only [qq] at g1_51'
        refine WD 4 ?_
        refine dr_split 86 J (fun g1_55 => ?_) (fun g1_55 => ?_)
        · skip
          have g1_55' := g1_55
          try simp only [qq] at g1_55'
          first | exact absurd g1_55 (by decide) | (exfalso; simp at g1_55; done) | (exfalso; simp at g1_55; omega) | (exfalso; simp_all; done) | (exfalso; simp_all; omega)
        · skip
          have g1_55' := g1_55
          try simp only [qq] at g1_55'
          refine WD 5 ?_
          refine W 0 ?_
          refine aw_cond J (fun c_91 => ?_) (fun c_91 => ?_)
          · skip
            have c_91' := c_91
            try simp only [qq] at c_91'
            first | exact absurd c_91 (by decide) | (exfalso; simp at c_91; done) | (exfalso; simp at c_91; omega) | (exfalso; simp_all; done) | (exfalso; simp_all; omega)
          · skip
            have c_91' := c_91
            try simp only [qq] at c_91'
            refine W 2 ?_
            refine aw_cond J (fun c_93 => ?_) (fun c_93 => ?_)
            · skip
              have c_93' := c_93
              try simp only [qq] at c_93'
              refine W 5 ?_
              refine cl A (k40) ?_
              refine W 5 ?_
              refine cl A (k42) ?_
              refine W 1 ?_
              refine iff (fun c_103 c_103' => ?_) (fun c_103 c_103' => ?_)
              · skip
                refine aw_draw 10 mo (by kernel_rfl) ?_
                refine WD 7 ?_
                refine dcl A (seen_pure x.s sight n 35 hst hclo hn) ?_
                refine dcl A (k40') ?_
                refine WD 1 ?_
                refine W 0 ?_
                refine aw_drawc [] [1, 4] _ mo (by kernel_rfl) (HSub.refl _) ?_
                first | refine dc_ev rfl (ev_mv (v := .sl _ _) J) ?_ | refine dc_ev rfl (ev_mv (v := .own _ _ _) J) ?_ | refine dc_ev rfl (ev_mv (v := .raw _) J) ?_ | refine dc_ev rfl (ev_mv (v := .slx _ _) J) ?_ | refine dc_ev rfl (ev_mv (v := .msl _ _ _ _) J) ?_
                refine dc_eff rfl rfl (eff_append_new rfl sf45.h Tryz.underlying45 (less_nilx _) J (by simp; omega) (by simp; omega)) (by apply HL.sub; repeat' (first | exact HL.nil _ | apply HL.same | apply HL.tok)) ?_
                first | refine dc_ev rfl (ev_load_agg J rfl ty26.h rfl) ?_ | refine dc_ev rfl (ev_load_agg_i J ty26.h (by exact Nat.le_of_ble_eq_true rfl)) ?_
                refine dc_ev rfl (ev_buildSlice (es := [[_]]) sf45.h rfl rfl rfl rfl) ?_
                refine dc_eff rfl rfl (eff_append rfl sf45.h Tryz.underlying45 rfl rfl (less_slx _ _) (by simp; omega) (by simp; omega)) (by apply HL.sub; repeat' (first | exact HL.nil _ | apply HL.same | apply HL.tok)) ?_
                first | refine dc_ev rfl (ev_as (v := .sl _ _) J) ?_ | refine dc_ev rfl (ev_as (v := .own _ _ _) J) ?_ | refine dc_ev rfl (ev_as (v := .raw _) J) ?_ | refine dc_ev rfl (ev_as (v := .slx _ _) J) ?_ | refine dc_ev rfl (ev_as (v := .msl _ _ _ _) J) ?_
                refine dc_nil ?_
                refine W 4 ?_
                refine cl A (k45) ?_
                refine W 9 ?_
                refine sq_ev rfl (ev_call en45.h J (k45') ⟨J, Less.trans (less_own _ _ _) (Less.eq (by simp [figs])), J, J, trivial⟩) ?_
                refine W 8 ?_
                refine cl A (k44) ?_
                refine W 10 ?_
                refine sq_ev rfl (ev_call en44.h J (k44') ⟨J, Less.trans (less_own _ _ _) (Less.eq (by simp [figs])), J, trivial⟩) ?_
                refine W 10 ?_
                refine sq_split 152 J (fun g14_2 => ?_) (fun g14_2 => ?_)
                · skip
                  have g14_2' := g14_2
                  try simp only [qq] at g14_2'
                  first | exact absurd g14_2 (by decide) | (exfalso; simp at g14_2; done) | (exfalso; simp at g14_2; omega) | (exfalso; simp_all; done) | (exfalso; simp_all; omega)
                · skip
                  have g14_2' := g14_2
                  try simp only [qq] at g14_2'
                  refine W 4 ?_
                  refine sq_split 156 J (fun g14_6 => ?_) (fun g14_6 => ?_)
                  · skip
                    have g14_6' := g14_6
                    try simp only [qq] at g14_6'
                    first | exact absurd g14_6 (by decide) | (exfalso; simp at g14_6; done) | (exfalso; simp at g14_6; omega) | (exfalso; simp_all; done) | (exfalso; simp_all; omega)
                  · skip
                    have g14_6' := g14_6
                    try simp only [qq] at g14_6'
                    refine W 5 ?_
                    refine sq_split 161 J (fun g14_11 => ?_) (fun g14_11 => ?_)
                    · skip
                      have g14_11' := g14_11
                      try simp only [qq] at g14_11'
                      first | exact absurd g14_11 (by decide) | (exfalso; simp at g14_11; done) | (exfalso; simp at g14_11; omega) | (exfalso; simp_all; done) | (exfalso; simp_all; omega)
                    · skip
                      have g14_11' := g14_11
                      try simp only [qq] at g14_11'
                      refine W 13 ?_
                      refine sq_split 174 J (fun g14_24 => ?_) (fun g14_24 => ?_)
                      · skip
                        have g14_24' := g14_24
                        try simp only [qq] at g14_24'
                        first | exact absurd g14_24 (by decide) | (exfalso; simp at g14_24; done) | (exfalso; simp at g14_24; omega) | (exfalso; simp_all; done) | (exfalso; simp_all; omega)
                      · skip
                        have g14_24' := g14_24
                        try simp only [qq] at g14_24'
                        refine W 5 ?_
                        refine sq_split 179 J (fun g14_29 => ?_) (fun g14_29 => ?_)
                        · skip
                          have g14_29' := g14_29
                          try simp only [qq] at g14_29'
                          first | exact absurd g14_29 (by decide) | (exfalso; simp at g14_29; done) | (exfalso; simp at g14_29; omega) | (exfalso; simp_all; done) | (exfalso; simp_all; omega)
                        · skip
                          have g14_29' := g14_29
                          try simp only [qq] at g14_29'
                          refine W 2 ?_
                          refine cy A (k53) ?_
                          refine W 2 ?_
                          refine aw_cond J (fun c_184 => ?_) (fun c_184 => ?_)
                          · skip
                            have c_184' := c_184
                            try simp only [qq] at c_184'
                            first | exact absurd c_184 (by decide) | (exfalso; simp at c_184; done) | (exfalso; simp at c_184; omega) | (exfalso; simp_all; done) | (exfalso; simp_all; omega)
                          · skip
                            have c_184' := c_184
                            try simp only [qq] at c_184'
                            refine W 3 ?_
                            refine sq_split 187 J (fun g16_2 => ?_) (fun g16_2 => ?_)
                            · skip
                              have g16_2' := g16_2
                              try simp only [qq] at g16_2'
                              refine W 7 ?_
                              refine sq_split 194 J (fun g16_9 => ?_) (fun g16_9 => ?_)
                              · skip
                                have g16_9' := g16_9
                                try simp only [qq] at g16_9'
                                refine W 9 ?_
                                refine cy A (known_pure) ?_
                                refine W 2 ?_
                                exact retQ_pure (v := .raw _) rfl rfl J
                              · skip
                                have g16_9' := g16_9
                                try simp only [qq] at g16_9'
                                refine W 3 ?_
                                refine sq_split 197 J (fun g16_12 => ?_) (fun g16_12 => ?_)
                                · skip
                                  have g16_12' := g16_12
                                  try simp only [qq] at g16_12'
                                  refine W 6 ?_
                                  refine sq_split 203 J (fun g16_18 => ?_) (fun g16_18 => ?_)
                                  · skip
                                    have g16_18' := g16_18
                                    try simp only [qq] at g16_18'
                                    refine cy A (known_pure) ?_
                                    refine W 2 ?_
                                    exact retQ_pure (v := .raw _) rfl rfl J
                                  · skip
                                    have g16_18' := g16_18
                                    try simp only [qq] at g16_18'
                                    first | exact absurd g16_18 (by decide) | (exfalso; simp at g16_18; done) | (exfalso; simp at g16_18; omega) | (exfalso; simp_all; done) | (exfalso; simp_all; omega)
                                · skip
                                  have g16_12' := g16_12
                                  try simp only [qq] at g16_12'
                                  first | exact absurd g16_12 (by decide) | (exfalso; simp at g16_12; done) | (exfalso; simp at g16_12; omega) | (exfalso; simp_all; done) | (exfalso; simp_all; omega)
                            · skip
                              have g16_2' := g16_2
                              try simp only [qq] at g16_2'
                              refine W 4 ?_
                              refine sq_split 191 J (fun g16_6 => ?_) (fun g16_6 => ?_)
                              · skip
                                have g16_6' := g16_6
                                try simp only [qq] at g16_6'
                                refine W 3 ?_
                                refine sq_split 194 J (fun g16_9 => ?_) (fun g16_9 => ?_)
                                · skip
                                  have g16_9' := g16_9
                                  try simp only [qq] at g16_9'
                                  refine W 9 ?_
                                  refine cy A (known_pure) ?_
                                  refine W 2 ?_
                                  exact retQ_pure (v := .raw _) rfl rfl J
                                · skip
                                  have g16_9' := g16_9
                                  try simp only [qq] at g16_9'
                                  refine W 3 ?_
                                  refine sq_split 197 J (fun g16_12 => ?_) (fun g16_12 => ?_)
                                  · skip
                                    have g16_12' := g16_12
                                    try simp only [qq] at g16_12'
                                    refine W 6 ?_
                                    refine sq_split 203 J (fun g16_18 => ?_) (fun g16_18 => ?_)
                                    · skip
                                      have g16_18' := g16_18
                                      try simp only [qq] at g16_18'
                                      refine cy A (known_pure) ?_
                                      refine W 2 ?_
                                      exact retQ_pure (v := .raw _) rfl rfl J
                                    · skip
                                      have g16_18' := g16_18
                                      try simp only [qq] at g16_18'
                                      first | exact absurd g16_18 (by decide) | (exfalso; simp at g16_18; done) | (exfalso; simp at g16_18; omega) | (exfalso; simp_all; done) | (exfalso; simp_all; omega)
                                  · skip
                                    have g16_12' := g16_12
                                    try simp only [qq] at g16_12'
                                    first | exact absurd g16_12 (by decide) | (exfalso; simp at g16_12; done) | (exfalso; simp at g16_12; omega) | (exfalso; simp_all; done) | (exfalso; simp_all; omega)
                              · skip
                                have g16_6' := g16_6
                                try simp only [qq] at g16_6'
                                first | exact absurd g16_6 (by decide) | (exfalso; simp at g16_6; done) | (exfalso; simp at g16_6; omega) | (exfalso; simp_all; done) | (exfalso; simp_all; omega)
              · skip
                first | exact absurd c_103 (by decide) | (exfalso; simp at c_103; done) | (exfalso; simp at c_103; omega) | (exfalso; simp_all; done) | (exfalso; simp_all; omega)
            · skip
              have c_93' := c_93
              try simp only [qq] at c_93'
              first | exact absurd c_93 (by decide) | (exfalso; simp at c_93; done) | (exfalso; simp at c_93; omega) | (exfalso; simp_all; done) | (exfalso; simp_all; omega)
theorem more_35n {x : Sn} {sight : List (List UInt8)} {n : Nat} {figure a g1 g2 h1 h2 g h : Int} {more : Fg} {t u : List Int} (hst : stOK x.s = true) (hclo : Clo x.s sight) (hn : (n : Int) < x.s.wide * x.s.high) (hwh : 1 ≤ x.s.wide * x.s.high ∧ x.s.wide * x.s.high ≤ 256) (hl6 : x.l.length < 6) (hfig : 0 ≤ figure ∧ figure < x.l.length)
    (k34 : APure Tryz.prog 34 [figs x.l] (B true)) (k23 : APure Tryz.prog 23 [strs sight] (B true)) (k23' : APure Tryz.prog 23 [strs more] (B true)) (k24 : APure Tryz.prog 24 [stA x.s] (B true)) (k37 : APure Tryz.prog 37 [stA x.s, strs sight] (B true)) (k36 : APure Tryz.prog 36 [stA x.s, figs x.l, rcA x.r, B true] (I 0)) (k25 : APure Tryz.prog 25 [fgA more] (B true))
    (k40 : APure Tryz.prog 40 [stA x.s, figs x.l, rcA x.r, strs sight] (I a)) (k45 : APure Tryz.prog 45 [stA x.s, figs x.l, rcA x.r, I figure] (.tup [ints t, I 0])) (k45' : APure Tryz.prog 45 [stA x.s, figs (x.l ++ [more]), rcA x.r, I figure] (.tup [ints u, I 0]))
    (k44 : APure Tryz.prog 44 [stA x.s, figs x.l, rcA x.r] (.tup [I g1, I g2, I g])) (k44' : APure Tryz.prog 44 [stA x.s, figs (x.l ++ [more]), rcA x.r] (.tup [I h1, I h2, I h])) (k53 : APure Tryz.prog 53 [ints t, ints u] (B true))
    (ha : 0 ≤ a) (ht : t.length ≤ 6) (hu : u.length ≤ 6) (hgh : (g = 0 ∧ h = 0) ∨ (g = 5 ∧ (h = 0 ∨ h = 5))) {c : UInt8} (hc : ¬ (c.toNat : Int) = 63) (k42 : APure Tryz.prog 42 [stA x.s, strs sight, I (n : Int)] (C c)) : APure Tryz.prog 9 [stA x.s, figs x.l, rcA x.r, strs sight, I (n : Int), B true, fgA more, I figure] (B true) := by
  refine apure_of (rs := [.tmp 16]) Tryz.func9 rfl rfl (Nat.le_of_ble_eq_true rfl) (by simp [AV.pureL, AV.pureB, AV.pureE, pureE_map]) (by first | rfl | (simp [AV.pureL, AV.pureB, AV.pureE, pureE_map])) fun e0 he0 => ?_
  refine W 4 ?_
  refine aw_draw 61 mo (by kernel_rfl) ?_
  refine WD 1 ?_
  refine dcl A (k34) ?_
  refine WD 3 ?_
  refine dcy A (k23) ?_
  refine WD 5 ?_
  refine dcy A (k23') ?_
  refine WD 7 ?_
  refine dcy A (k24) ?_
  refine WD 3 ?_
  refine dcy A (k37) ?_
  refine WD 1 ?_
  refine dcy A (k36) ?_
  refine WD 7 ?_
  refine dr_split 63 J (fun g1_32 => ?_) (fun g1_32 => ?_)
  · skip
    have g1_32' := g1_32
    try simp only [qq] at g1_32'
    first | exact absurd g1_32 (by decide) | (exfalso; simp at g1_32; done) | (exfalso; simp at g1_32; omega) | (exfalso; simp_all; done) | (exfalso; simp_all; omega)
  · skip
    have g1_32' := g1_32
    try simp only [qq] at g1_32'
    refine WD 9 ?_
    refine dr_split 72 J (fun g1_41 => ?_) (fun g1_41 => ?_)
    · skip
      have g1_41' := g1_41
      try simp only [qq] at g1_41'
      first | exact absurd g1_41 (by decide) | (exfalso; simp at g1_41; done) | (exfalso; simp at g1_41; omega) | (exfalso; simp_all; done) | (exfalso; simp_all; omega)
    · skip
      have g1_41' := g1_41
      try simp only [qq] at g1_41'
      refine WD 1 ?_
      refine dcy A (k25) ?_
      refine WD 8 ?_
      refine dr_split 82 J (fun g1_51 => ?_) (fun g1_51 => ?_)
      · skip
        have g1_51' := g1_51
        try simp only [qq] at g1_51'
        first | exact absurd g1_51 (by decide) | (exfalso; simp at g1_51; done) | (exfalso; simp at g1_51; omega) | (exfalso; simp_all; done) | (exfalso; simp_all; omega)
      · skip
        have g1_51' := g1_51
        try simp only [qq] at g1_51'
        refine WD 4 ?_
        refine dr_split 86 J (fun g1_55 => ?_) (fun g1_55 => ?_)
        · skip
          have g1_55' := g1_55
          try simp only [qq] at g1_55'
          first | exact absurd g1_55 (by decide) | (exfalso; simp at g1_55; done) | (exfalso; simp at g1_55; omega) | (exfalso; simp_all; done) | (exfalso; simp_all; omega)
        · skip
          have g1_55' := g1_55
          try simp only [qq] at g1_55'
          refine WD 5 ?_
          refine W 0 ?_
          refine aw_cond J (fun c_91 => ?_) (fun c_91 => ?_)
          · skip
            have c_91' := c_91
            try simp only [qq] at c_91'
            first | exact absurd c_91 (by decide) | (exfalso; simp at c_91; done) | (exfalso; simp at c_91; omega) | (exfalso; simp_all; done) | (exfalso; simp_all; omega)
          · skip
            have c_91' := c_91
            try simp only [qq] at c_91'
            refine W 2 ?_
            refine aw_cond J (fun c_93 => ?_) (fun c_93 => ?_)
            · skip
              have c_93' := c_93
              try simp only [qq] at c_93'
              refine W 5 ?_
              refine cl A (k40) ?_
              refine W 5 ?_
              refine cl A (k42) ?_
              refine W 1 ?_
              refine iff (fun c_103 c_103' => ?_) (fun c_103 c_103' => ?_)
              · skip
                first | exact absurd c_103 (by decide) | (exfalso; simp at c_103; done) | (exfalso; simp at c_103; omega) | (exfalso; simp_all; done) | (exfalso; simp_all; omega)
              · skip
                refine W 0 ?_
                refine aw_drawc [] [1, 4] _ mo (by kernel_rfl) (HSub.refl _) ?_
                first | refine dc_ev rfl (ev_mv (v := .sl _ _) J) ?_ | refine dc_ev rfl (ev_mv (v := .own _ _ _) J) ?_ | refine dc_ev rfl (ev_mv (v := .raw _) J) ?_ | refine dc_ev rfl (ev_mv (v := .slx _ _) J) ?_ | refine dc_ev rfl (ev_mv (v := .msl _ _ _ _) J) ?_
                refine dc_eff rfl rfl (eff_append_new rfl sf45.h Tryz.underlying45 (less_nilx _) J (by simp; omega) (by simp; omega)) (by apply HL.sub; repeat' (first | exact HL.nil _ | apply HL.same | apply HL.tok)) ?_
                first | refine dc_ev rfl (ev_load_agg J rfl ty26.h rfl) ?_ | refine dc_ev rfl (ev_load_agg_i J ty26.h (by exact Nat.le_of_ble_eq_true rfl)) ?_
                refine dc_ev rfl (ev_buildSlice (es := [[_]]) sf45.h rfl rfl rfl rfl) ?_
                refine dc_eff rfl rfl (eff_append rfl sf45.h Tryz.underlying45 rfl rfl (less_slx _ _) (by simp; omega) (by simp; omega)) (by apply HL.sub; repeat' (first | exact HL.nil _ | apply HL.same | apply HL.tok)) ?_
                first | refine dc_ev rfl (ev_as (v := .sl _ _) J) ?_ | refine dc_ev rfl (ev_as (v := .own _ _ _) J) ?_ | refine dc_ev rfl (ev_as (v := .raw _) J) ?_ | refine dc_ev rfl (ev_as (v := .slx _ _) J) ?_ | refine dc_ev rfl (ev_as (v := .msl _ _ _ _) J) ?_
                refine dc_nil ?_
                refine W 4 ?_
                refine cl A (k45) ?_
                refine W 9 ?_
                refine sq_ev rfl (ev_call en45.h J (k45') ⟨J, Less.trans (less_own _ _ _) (Less.eq (by simp [figs])), J, J, trivial⟩) ?_
                refine W 8 ?_
                refine cl A (k44) ?_
                refine W 10 ?_
                refine sq_ev rfl (ev_call en44.h J (k44') ⟨J, Less.trans (less_own _ _ _) (Less.eq (by simp [figs])), J, trivial⟩) ?_
                refine W 10 ?_
                refine sq_split 152 J (fun g14_2 => ?_) (fun g14_2 => ?_)
                · skip
                  have g14_2' := g14_2
                  try simp only [qq] at g14_2'
                  first | exact absurd g14_2 (by decide) | (exfalso; simp at g14_2; done) | (exfalso; simp at g14_2; omega) | (exfalso; simp_all; done) | (exfalso; simp_all; omega)
                · skip
                  have g14_2' := g14_2
                  try simp only [qq] at g14_2'
                  refine W 4 ?_
                  refine sq_split 156 J (fun g14_6 => ?_) (fun g14_6 => ?_)
                  · skip
                    have g14_6' := g14_6
                    try simp only [qq] at g14_6'
                    first | exact absurd g14_6 (by decide) | (exfalso; simp at g14_6; done) | (exfalso; simp at g14_6; omega) | (exfalso; simp_all; done) | (exfalso; simp_all; omega)
                  · skip
                    have g14_6' := g14_6
                    try simp only [qq] at g14_6'
                    refine W 5 ?_
                    refine sq_split 161 J (fun g14_11 => ?_) (fun g14_11 => ?_)
                    · skip
                      have g14_11' := g14_11
                      try simp only [qq] at g14_11'
                      first | exact absurd g14_11 (by decide) | (exfalso; simp at g14_11; done) | (exfalso; simp at g14_11; omega) | (exfalso; simp_all; done) | (exfalso; simp_all; omega)
                    · skip
                      have g14_11' := g14_11
                      try simp only [qq] at g14_11'
                      refine W 13 ?_
                      refine sq_split 174 J (fun g14_24 => ?_) (fun g14_24 => ?_)
                      · skip
                        have g14_24' := g14_24
                        try simp only [qq] at g14_24'
                        first | exact absurd g14_24 (by decide) | (exfalso; simp at g14_24; done) | (exfalso; simp at g14_24; omega) | (exfalso; simp_all; done) | (exfalso; simp_all; omega)
                      · skip
                        have g14_24' := g14_24
                        try simp only [qq] at g14_24'
                        refine W 5 ?_
                        refine sq_split 179 J (fun g14_29 => ?_) (fun g14_29 => ?_)
                        · skip
                          have g14_29' := g14_29
                          try simp only [qq] at g14_29'
                          first | exact absurd g14_29 (by decide) | (exfalso; simp at g14_29; done) | (exfalso; simp at g14_29; omega) | (exfalso; simp_all; done) | (exfalso; simp_all; omega)
                        · skip
                          have g14_29' := g14_29
                          try simp only [qq] at g14_29'
                          refine W 2 ?_
                          refine cy A (k53) ?_
                          refine W 2 ?_
                          refine aw_cond J (fun c_184 => ?_) (fun c_184 => ?_)
                          · skip
                            have c_184' := c_184
                            try simp only [qq] at c_184'
                            first | exact absurd c_184 (by decide) | (exfalso; simp at c_184; done) | (exfalso; simp at c_184; omega) | (exfalso; simp_all; done) | (exfalso; simp_all; omega)
                          · skip
                            have c_184' := c_184
                            try simp only [qq] at c_184'
                            refine W 3 ?_
                            refine sq_split 187 J (fun g16_2 => ?_) (fun g16_2 => ?_)
                            · skip
                              have g16_2' := g16_2
                              try simp only [qq] at g16_2'
                              refine W 7 ?_
                              refine sq_split 194 J (fun g16_9 => ?_) (fun g16_9 => ?_)
                              · skip
                                have g16_9' := g16_9
                                try simp only [qq] at g16_9'
                                refine W 9 ?_
                                refine cy A (known_pure) ?_
                                refine W 2 ?_
                                exact retQ_pure (v := .raw _) rfl rfl J
                              · skip
                                have g16_9' := g16_9
                                try simp only [qq] at g16_9'
                                refine W 3 ?_
                                refine sq_split 197 J (fun g16_12 => ?_) (fun g16_12 => ?_)
                                · skip
                                  have g16_12' := g16_12
                                  try simp only [qq] at g16_12'
                                  refine W 6 ?_
                                  refine sq_split 203 J (fun g16_18 => ?_) (fun g16_18 => ?_)
                                  · skip
                                    have g16_18' := g16_18
                                    try simp only [qq] at g16_18'
                                    refine cy A (known_pure) ?_
                                    refine W 2 ?_
                                    exact retQ_pure (v := .raw _) rfl rfl J
                                  · skip
                                    have g16_18' := g16_18
                                    try simp only [qq] at g16_18'
                                    first | exact absurd g16_18 (by decide) | (exfalso; simp at g16_18; done) | (exfalso; simp at g16_18; omega) | (exfalso; simp_all; done) | (exfalso; simp_all; omega)
                                · skip
                                  have g16_12' := g16_12
                                  try simp only [qq] at g16_12'
                                  first | exact absurd g16_12 (by decide) | (exfalso; simp at g16_12; done) | (exfalso; simp at g16_12; omega) | (exfalso; simp_all; done) | (exfalso; simp_all; omega)
                            · skip
                              have g16_2' := g16_2
                              try simp only [qq] at g16_2'
                              refine W 4 ?_
                              refine sq_split 191 J (fun g16_6 => ?_) (fun g16_6 => ?_)
                              · skip
                                have g16_6' := g16_6
                                try simp only [qq] at g16_6'
                                refine W 3 ?_
                                refine sq_split 194 J (fun g16_9 => ?_) (fun g16_9 => ?_)
                                · skip
                                  have g16_9' := g16_9
                                  try simp only [qq] at g16_9'
                                  refine W 9 ?_
                                  refine cy A (known_pure) ?_
                                  refine W 2 ?_
                                  exact retQ_pure (v := .raw _) rfl rfl J
                                · skip
                                  have g16_9' := g16_9
                                  try simp only [qq] at g16_9'
                                  refine W 3 ?_
                                  refine sq_split 197 J (fun g16_12 => ?_) (fun g16_12 => ?_)
                                  · skip
                                    have g16_12' := g16_12
                                    try simp only [qq] at g16_12'
                                    refine W 6 ?_
                                    refine sq_split 203 J (fun g16_18 => ?_) (fun g16_18 => ?_)
                                    · skip
                                      have g16_18' := g16_18
                                      try simp only [qq] at g16_18'
                                      refine cy A (known_pure) ?_
                                      refine W 2 ?_
                                      exact retQ_pure (v := .raw _) rfl rfl J
                                    · skip
                                      have g16_18' := g16_18
                                      try simp only [qq] at g16_18'
                                      first | exact absurd g16_18 (by decide) | (exfalso; simp at g16_18; done) | (exfalso; simp at g16_18; omega) | (exfalso; simp_all; done) | (exfalso; simp_all; omega)
                                  · skip
                                    have g16_12' := g16_12
                                    try simp only [qq] at g16_12'
                                    first | exact absurd g16_12 (by decide) | (exfalso; simp at g16_12; done) | (exfalso; simp at g16_12; omega) | (exfalso; simp_all; done) | (exfalso; simp_all; omega)
                              · skip
                                have g16_6' := g16_6
                                try simp only [qq] at g16_6'
                                first | exact absurd g16_6 (by decide) | (exfalso; simp at g16_6; done) | (exfalso; simp at g16_6; omega) | (exfalso; simp_all; done) | (exfalso; simp_all; omega)
            · skip
              have c_93' := c_93
              try simp only [qq] at c_93'
              first | exact absurd c_93 (by decide) | (exfalso; simp at c_93; done) | (exfalso; simp at c_93; omega) | (exfalso; simp_all; done) | (exfalso; simp_all; omega)
theorem more_46y {x : Sn} {sight : List (List UInt8)} {n : Nat} {figure a b g1 g2 h1 h2 g h : Int} {more : Fg} {t u : List Int} (hst : stOK x.s = true) (hclo : Clo x.s sight) (hn : (n : Int) < x.s.wide * x.s.high) (hwh : 1 ≤ x.s.wide * x.s.high ∧ x.s.wide * x.s.high ≤ 256) (hl6 : x.l.length < 6) (hfig : 0 ≤ figure ∧ figure < x.l.length)
    (k34 : APure Tryz.prog 34 [figs x.l] (B true)) (k23 : APure Tryz.prog 23 [strs sight] (B true)) (k23' : APure Tryz.prog 23 [strs more] (B true)) (k24 : APure Tryz.prog 24 [stA x.s] (B true)) (k37 : APure Tryz.prog 37 [stA x.s, strs sight] (B true)) (k36 : APure Tryz.prog 36 [stA x.s, figs x.l, rcA x.r, B true] (I 0)) (k25 : APure Tryz.prog 25 [fgA more] (B true))
    (k40 : APure Tryz.prog 40 [stA x.s, figs x.l, rcA x.r, strs sight] (I a)) (k45 : APure Tryz.prog 45 [stA x.s, figs x.l, rcA x.r, I figure] (.tup [ints t, I 0])) (k45' : APure Tryz.prog 45 [stA x.s, figs (x.l ++ [more]), rcA x.r, I figure] (.tup [ints u, I 0]))
    (k44 : APure Tryz.prog 44 [stA x.s, figs x.l, rcA x.r] (.tup [I g1, I g2, I g])) (k44' : APure Tryz.prog 44 [stA x.s, figs (x.l ++ [more]), rcA x.r] (.tup [I h1, I h2, I h])) (k53 : APure Tryz.prog 53 [ints t, ints u] (B true))
    (ha : 0 ≤ a) (ht : t.length ≤ 6) (hu : u.length ≤ 6) (hgh : (g = 0 ∧ h = 0) ∨ (g = 5 ∧ (h = 0 ∨ h = 5))) (hb : 0 ≤ b ∧ b ≤ a) (k42 : APure Tryz.prog 42 [stA x.s, strs sight, I (n : Int)] (C 63)) (k40' : APure Tryz.prog 40 [stA x.s, figs x.l, rcA x.r, strs (seenC x.s.wide sight n 46)] (I b)) : APure Tryz.prog 9 [stA x.s, figs x.l, rcA x.r, strs sight, I (n : Int), B false, fgA more, I figure] (B true) := by
  refine apure_of (rs := [.tmp 16]) Tryz.func9 rfl rfl (Nat.le_of_ble_eq_true rfl) (by simp [AV.pureL, AV.pureB, AV.pureE, pureE_map]) (by first | rfl | (simp [AV.pureL, AV.pureB, AV.pureE, pureE_map])) fun e0 he0 => ?_
  refine W 4 ?_
  refine aw_draw 61 mo (by kernel_rfl) ?_
  refine WD 1 ?_
  refine dcl A (k34) ?_
  refine WD 3 ?_
  refine dcy A (k23) ?_
  refine WD 5 ?_
  refine dcy A (k23') ?_
  refine WD 7 ?_
  refine dcy A (k24) ?_
  refine WD 3 ?_
  refine dcy A (k37) ?_
  refine WD 1 ?_
  refine dcy A (k36) ?_
  refine WD 7 ?_
  refine dr_split 63 J (fun g1_32 => ?_) (fun g1_32 => ?_)
  · skip
    have g1_32' := g1_32
    try simp only [qq] at g1_32'
    first | exact absurd g1_32 (by decide) | (exfalso; simp at g1_32; done) | (exfalso; simp at g1_32; omega) | (exfalso; simp_all; done) | (exfalso; simp_all; omega)
  · skip
    have g1_32' := g1_32
    try simp only [qq] at g1_32'
    refine WD 9 ?_
    refine dr_split 72 J (fun g1_41 => ?_) (fun g1_41 => ?_)
    · skip
      have g1_41' := g1_41
      try simp only [qq] at g1_41'
      first | exact absurd g1_41 (by decide) | (exfalso; simp at g1_41; done) | (exfalso; simp at g1_41; omega) | (exfalso; simp_all; done) | (exfalso; simp_all; omega)
    · skip
      have g1_41' := g1_41
      try simp only [qq] at g1_41'
      refine WD 1 ?_
      refine dcy A (k25) ?_
      refine WD 8 ?_
      refine dr_split 82 J (fun g1_51 => ?_) (fun g1_51 => ?_)
      · skip
        have g1_51' := g1_51
        try simp only [qq] at g1_51'
        first | exact absurd g1_51 (by decide) | (exfalso; simp at g1_51; done) | (exfalso; simp at g1_51; omega) | (exfalso; simp_all; done) | (exfalso; simp_all; omega)
      · skip
        have g1_51' := g1_51
        try simp only [qq] at g1_51'
        refine WD 4 ?_
        refine dr_split 86 J (fun g1_55 => ?_) (fun g1_55 => ?_)
        · skip
          have g1_55' := g1_55
          try simp only [qq] at g1_55'
          first | exact absurd g1_55 (by decide) | (exfalso; simp at g1_55; done) | (exfalso; simp at g1_55; omega) | (exfalso; simp_all; done) | (exfalso; simp_all; omega)
        · skip
          have g1_55' := g1_55
          try simp only [qq] at g1_55'
          refine WD 5 ?_
          refine W 0 ?_
          refine aw_cond J (fun c_91 => ?_) (fun c_91 => ?_)
          · skip
            have c_91' := c_91
            try simp only [qq] at c_91'
            first | exact absurd c_91 (by decide) | (exfalso; simp at c_91; done) | (exfalso; simp at c_91; omega) | (exfalso; simp_all; done) | (exfalso; simp_all; omega)
          · skip
            have c_91' := c_91
            try simp only [qq] at c_91'
            refine W 2 ?_
            refine aw_cond J (fun c_93 => ?_) (fun c_93 => ?_)
            · skip
              have c_93' := c_93
              try simp only [qq] at c_93'
              first | exact absurd c_93 (by decide) | (exfalso; simp at c_93; done) | (exfalso; simp at c_93; omega) | (exfalso; simp_all; done) | (exfalso; simp_all; omega)
            · skip
              have c_93' := c_93
              try simp only [qq] at c_93'
              refine W 4 ?_
              refine cl A (k40) ?_
              refine W 5 ?_
              refine cl A (k42) ?_
              refine W 1 ?_
              refine iff (fun c_103 c_103' => ?_) (fun c_103 c_103' => ?_)
              · skip
                refine aw_draw 10 mo (by kernel_rfl) ?_
                refine WD 7 ?_
                refine dcl A (seen_pure x.s sight n 46 hst hclo hn) ?_
                refine dcl A (k40') ?_
                refine WD 1 ?_
                refine W 0 ?_
                refine aw_drawc [] [1, 4] _ mo (by kernel_rfl) (HSub.refl _) ?_
                first | refine dc_ev rfl (ev_mv (v := .sl _ _) J) ?_ | refine dc_ev rfl (ev_mv (v := .own _ _ _) J) ?_ | refine dc_ev rfl (ev_mv (v := .raw _) J) ?_ | refine dc_ev rfl (ev_mv (v := .slx _ _) J) ?_ | refine dc_ev rfl (ev_mv (v := .msl _ _ _ _) J) ?_
                refine dc_eff rfl rfl (eff_append_new rfl sf45.h Tryz.underlying45 (less_nilx _) J (by simp; omega) (by simp; omega)) (by apply HL.sub; repeat' (first | exact HL.nil _ | apply HL.same | apply HL.tok)) ?_
                first | refine dc_ev rfl (ev_load_agg J rfl ty26.h rfl) ?_ | refine dc_ev rfl (ev_load_agg_i J ty26.h (by exact Nat.le_of_ble_eq_true rfl)) ?_
                refine dc_ev rfl (ev_buildSlice (es := [[_]]) sf45.h rfl rfl rfl rfl) ?_
                refine dc_eff rfl rfl (eff_append rfl sf45.h Tryz.underlying45 rfl rfl (less_slx _ _) (by simp; omega) (by simp; omega)) (by apply HL.sub; repeat' (first | exact HL.nil _ | apply HL.same | apply HL.tok)) ?_
                first | refine dc_ev rfl (ev_as (v := .sl _ _) J) ?_ | refine dc_ev rfl (ev_as (v := .own _ _ _) J) ?_ | refine dc_ev rfl (ev_as (v := .raw _) J) ?_ | refine dc_ev rfl (ev_as (v := .slx _ _) J) ?_ | refine dc_ev rfl (ev_as (v := .msl _ _ _ _) J) ?_
                refine dc_nil ?_
                refine W 4 ?_
                refine cl A (k45) ?_
                refine W 9 ?_
                refine sq_ev rfl (ev_call en45.h J (k45') ⟨J, Less.trans (less_own _ _ _) (Less.eq (by simp [figs])), J, J, trivial⟩) ?_
                refine W 8 ?_
                refine cl A (k44) ?_
                refine W 10 ?_
                refine sq_ev rfl (ev_call en44.h J (k44') ⟨J, Less.trans (less_own _ _ _) (Less.eq (by simp [figs])), J, trivial⟩) ?_
                refine W 10 ?_
                refine sq_split 152 J (fun g14_2 => ?_) (fun g14_2 => ?_)
                · skip
                  have g14_2' := g14_2
                  try simp only [qq] at g14_2'
                  first | exact absurd g14_2 (by decide) | (exfalso; simp at g14_2; done) | (exfalso; simp at g14_2; omega) | (exfalso; simp_all; done) | (exfalso; simp_all; omega)
                · skip
                  have g14_2' := g14_2
                  try simp only [qq] at g14_2'
                  refine W 4 ?_
                  refine sq_split 156 J (fun g14_6 => ?_) (fun g14_6 => ?_)
                  · skip
                    have g14_6' := g14_6
                    try simp only [qq] at g14_6'
                    first | exact absurd g14_6 (by decide) | (exfalso; simp at g14_6; done) | (exfalso; simp at g14_6; omega) | (exfalso; simp_all; done) | (exfalso; simp_all; omega)
                  · skip
                    have g14_6' := g14_6
                    try simp only [qq] at g14_6'
                    refine W 5 ?_
                    refine sq_split 161 J (fun g14_11 => ?_) (fun g14_11 => ?_)
                    · skip
                      have g14_11' := g14_11
                      try simp only [qq] at g14_11'
                      first | exact absurd g14_11 (by decide) | (exfalso; simp at g14_11; done) | (exfalso; simp at g14_11; omega) | (exfalso; simp_all; done) | (exfalso; simp_all; omega)
                    · skip
                      have g14_11' := g14_11
                      try simp only [qq] at g14_11'
                      refine W 13 ?_
                      refine sq_split 174 J (fun g14_24 => ?_) (fun g14_24 => ?_)
                      · skip
                        have g14_24' := g14_24
                        try simp only [qq] at g14_24'
                        first | exact absurd g14_24 (by decide) | (exfalso; simp at g14_24; done) | (exfalso; simp at g14_24; omega) | (exfalso; simp_all; done) | (exfalso; simp_all; omega)
                      · skip
                        have g14_24' := g14_24
                        try simp only [qq] at g14_24'
                        refine W 5 ?_
                        refine sq_split 179 J (fun g14_29 => ?_) (fun g14_29 => ?_)
                        · skip
                          have g14_29' := g14_29
                          try simp only [qq] at g14_29'
                          first | exact absurd g14_29 (by decide) | (exfalso; simp at g14_29; done) | (exfalso; simp at g14_29; omega) | (exfalso; simp_all; done) | (exfalso; simp_all; omega)
                        · skip
                          have g14_29' := g14_29
                          try simp only [qq] at g14_29'
                          refine W 2 ?_
                          refine cy A (k53) ?_
                          refine W 2 ?_
                          refine aw_cond J (fun c_184 => ?_) (fun c_184 => ?_)
                          · skip
                            have c_184' := c_184
                            try simp only [qq] at c_184'
                            first | exact absurd c_184 (by decide) | (exfalso; simp at c_184; done) | (exfalso; simp at c_184; omega) | (exfalso; simp_all; done) | (exfalso; simp_all; omega)
                          · skip
                            have c_184' := c_184
                            try simp only [qq] at c_184'
                            refine W 3 ?_
                            refine sq_split 187 J (fun g16_2 => ?_) (fun g16_2 => ?_)
                            · skip
                              have g16_2' := g16_2
                              try simp only [qq] at g16_2'
                              refine W 7 ?_
                              refine sq_split 194 J (fun g16_9 => ?_) (fun g16_9 => ?_)
                              · skip
                                have g16_9' := g16_9
                                try simp only [qq] at g16_9'
                                refine W 9 ?_
                                refine cy A (known_pure) ?_
                                refine W 2 ?_
                                exact retQ_pure (v := .raw _) rfl rfl J
                              · skip
                                have g16_9' := g16_9
                                try simp only [qq] at g16_9'
                                refine W 3 ?_
                                refine sq_split 197 J (fun g16_12 => ?_) (fun g16_12 => ?_)
                                · skip
                                  have g16_12' := g16_12
                                  try simp only [qq] at g16_12'
                                  refine W 6 ?_
                                  refine sq_split 203 J (fun g16_18 => ?_) (fun g16_18 => ?_)
                                  · skip
                                    have g16_18' := g16_18
                                    try simp only [qq] at g16_18'
                                    refine cy A (known_pure) ?_
                                    refine W 2 ?_
                                    exact retQ_pure (v := .raw _) rfl rfl J
                                  · skip
                                    have g16_18' := g16_18
                                    try simp only [qq] at g16_18'
                                    first | exact absurd g16_18 (by decide) | (exfalso; simp at g16_18; done) | (exfalso; simp at g16_18; omega) | (exfalso; simp_all; done) | (exfalso; simp_all; omega)
                                · skip
                                  have g16_12' := g16_12
                                  try simp only [qq] at g16_12'
                                  first | exact absurd g16_12 (by decide) | (exfalso; simp at g16_12; done) | (exfalso; simp at g16_12; omega) | (exfalso; simp_all; done) | (exfalso; simp_all; omega)
                            · skip
                              have g16_2' := g16_2
                              try simp only [qq] at g16_2'
                              refine W 4 ?_
                              refine sq_split 191 J (fun g16_6 => ?_) (fun g16_6 => ?_)
                              · skip
                                have g16_6' := g16_6
                                try simp only [qq] at g16_6'
                                refine W 3 ?_
                                refine sq_split 194 J (fun g16_9 => ?_) (fun g16_9 => ?_)
                                · skip
                                  have g16_9' := g16_9
                                  try simp only [qq] at g16_9'
                                  refine W 9 ?_
                                  refine cy A (known_pure) ?_
                                  refine W 2 ?_
                                  exact retQ_pure (v := .raw _) rfl rfl J
                                · skip
                                  have g16_9' := g16_9
                                  try simp only [qq] at g16_9'
                                  refine W 3 ?_
                                  refine sq_split 197 J (fun g16_12 => ?_) (fun g16_12 => ?_)
                                  · skip
                                    have g16_12' := g16_12
                                    try simp only [qq] at g16_12'
                                    refine W 6 ?_
                                    refine sq_split 203 J (fun g16_18 => ?_) (fun g16_18 => ?_)
                                    · skip
                                      have g16_18' := g16_18
                                      try simp only [qq] at g16_18'
                                      refine cy A (known_pure) ?_
                                      refine W 2 ?_
                                      exact retQ_pure (v := .raw _) rfl rfl J
                                    · skip
                                      have g16_18' := g16_18
                                      try simp only [qq] at g16_18'
                                      first | exact absurd g16_18 (by decide) | (exfalso; simp at g16_18; done) | (exfalso; simp at g16_18; omega) | (exfalso; simp_all; done) | (exfalso; simp_all; omega)
                                  · skip
                                    have g16_12' := g16_12
                                    try simp only [qq] at g16_12'
                                    first | exact absurd g16_12 (by decide) | (exfalso; simp at g16_12; done) | (exfalso; simp at g16_12; omega) | (exfalso; simp_all; done) | (exfalso; simp_all; omega)
                              · skip
                                have g16_6' := g16_6
                                try simp only [qq] at g16_6'
                                first | exact absurd g16_6 (by decide) | (exfalso; simp at g16_6; done) | (exfalso; simp at g16_6; omega) | (exfalso; simp_all; done) | (exfalso; simp_all; omega)
              · skip
                first | exact absurd c_103 (by decide) | (exfalso; simp at c_103; done) | (exfalso; simp at c_103; omega) | (exfalso; simp_all; done) | (exfalso; simp_all; omega)
theorem more_46n {x : Sn} {sight : List (List UInt8)} {n : Nat} {figure a g1 g2 h1 h2 g h : Int} {more : Fg} {t u : List Int} (hst : stOK x.s = true) (hclo : Clo x.s sight) (hn : (n : Int) < x.s.wide * x.s.high) (hwh : 1 ≤ x.s.wide * x.s.high ∧ x.s.wide * x.s.high ≤ 256) (hl6 : x.l.length < 6) (hfig : 0 ≤ figure ∧ figure < x.l.length)
    (k34 : APure Tryz.prog 34 [figs x.l] (B true)) (k23 : APure Tryz.prog 23 [strs sight] (B true)) (k23' : APure Tryz.prog 23 [strs more] (B true)) (k24 : APure Tryz.prog 24 [stA x.s] (B true)) (k37 : APure Tryz.prog 37 [stA x.s, strs sight] (B true)) (k36 : APure Tryz.prog 36 [stA x.s, figs x.l, rcA x.r, B true] (I 0)) (k25 : APure Tryz.prog 25 [fgA more] (B true))
    (k40 : APure Tryz.prog 40 [stA x.s, figs x.l, rcA x.r, strs sight] (I a)) (k45 : APure Tryz.prog 45 [stA x.s, figs x.l, rcA x.r, I figure] (.tup [ints t, I 0])) (k45' : APure Tryz.prog 45 [stA x.s, figs (x.l ++ [more]), rcA x.r, I figure] (.tup [ints u, I 0]))
    (k44 : APure Tryz.prog 44 [stA x.s, figs x.l, rcA x.r] (.tup [I g1, I g2, I g])) (k44' : APure Tryz.prog 44 [stA x.s, figs (x.l ++ [more]), rcA x.r] (.tup [I h1, I h2, I h])) (k53 : APure Tryz.prog 53 [ints t, ints u] (B true))
    (ha : 0 ≤ a) (ht : t.length ≤ 6) (hu : u.length ≤ 6) (hgh : (g = 0 ∧ h = 0) ∨ (g = 5 ∧ (h = 0 ∨ h = 5))) {c : UInt8} (hc : ¬ (c.toNat : Int) = 63) (k42 : APure Tryz.prog 42 [stA x.s, strs sight, I (n : Int)] (C c)) : APure Tryz.prog 9 [stA x.s, figs x.l, rcA x.r, strs sight, I (n : Int), B false, fgA more, I figure] (B true) := by
  refine apure_of (rs := [.tmp 16]) Tryz.func9 rfl rfl (Nat.le_of_ble_eq_true rfl) (by simp [AV.pureL, AV.pureB, AV.pureE, pureE_map]) (by first | rfl | (simp [AV.pureL, AV.pureB, AV.pureE, pureE_map])) fun e0 he0 => ?_
  refine W 4 ?_
  refine aw_draw 61 mo (by kernel_rfl) ?_
  refine WD 1 ?_
  refine dcl A (k34) ?_
  refine WD 3 ?_
  refine dcy A (k23) ?_
  refine WD 5 ?_
  refine dcy A (k23') ?_
  refine WD 7 ?_
  refine dcy A (k24) ?_
  refine WD 3 ?_
  refine dcy A (k37) ?_
  refine WD 1 ?_
  refine dcy A (k36) ?_
  refine WD 7 ?_
  refine dr_split 63 J (fun g1_32 => ?_) (fun g1_32 => ?_)
  · skip
    have g1_32' := g1_32
    try simp only [qq] at g1_32'
    first | exact absurd g1_32 (by decide) | (exfalso; simp at g1_32; done) | (exfalso; simp at g1_32; omega) | (exfalso; simp_all; done) | (exfalso; simp_all; omega)
  · skip
    have g1_32' := g1_32
    try simp only [qq] at g1_32'
    refine WD 9 ?_
    refine dr_split 72 J (fun g1_41 => ?_) (fun g1_41 => ?_)
    · skip
      have g1_41' := g1_41
      try simp only [qq] at g1_41'
      first | exact absurd g1_41 (by decide) | (exfalso; simp at g1_41; done) | (exfalso; simp at g1_41; omega) | (exfalso; simp_all; done) | (exfalso; simp_all; omega)
    · skip
      have g1_41' := g1_41
      try simp only [qq] at g1_41'
      refine WD 1 ?_
      refine dcy A (k25) ?_
      refine WD 8 ?_
      refine dr_split 82 J (fun g1_51 => ?_) (fun g1_51 => ?_)
      · skip
        have g1_51' := g1_51
        try simp only [qq] at g1_51'
        first | exact absurd g1_51 (by decide) | (exfalso; simp at g1_51; done) | (exfalso; simp at g1_51; omega) | (exfalso; simp_all; done) | (exfalso; simp_all; omega)
      · skip
        have g1_51' := g1_51
        try simp only [qq] at g1_51'
        refine WD 4 ?_
        refine dr_split 86 J (fun g1_55 => ?_) (fun g1_55 => ?_)
        · skip
          have g1_55' := g1_55
          try simp only [qq] at g1_55'
          first | exact absurd g1_55 (by decide) | (exfalso; simp at g1_55; done) | (exfalso; simp at g1_55; omega) | (exfalso; simp_all; done) | (exfalso; simp_all; omega)
        · skip
          have g1_55' := g1_55
          try simp only [qq] at g1_55'
          refine WD 5 ?_
          refine W 0 ?_
          refine aw_cond J (fun c_91 => ?_) (fun c_91 => ?_)
          · skip
            have c_91' := c_91
            try simp only [qq] at c_91'
            first | exact absurd c_91 (by decide) | (exfalso; simp at c_91; done) | (exfalso; simp at c_91; omega) | (exfalso; simp_all; done) | (exfalso; simp_all; omega)
          · skip
            have c_91' := c_91
            try simp only [qq] at c_91'
            refine W 2 ?_
            refine aw_cond J (fun c_93 => ?_) (fun c_93 => ?_)
            · skip
              have c_93' := c_93
              try simp only [qq] at c_93'
              first | exact absurd c_93 (by decide) | (exfalso; simp at c_93; done) | (exfalso; simp at c_93; omega) | (exfalso; simp_all; done) | (exfalso; simp_all; omega)
            · skip
              have c_93' := c_93
              try simp only [qq] at c_93'
              refine W 4 ?_
              refine cl A (k40) ?_
              refine W 5 ?_
              refine cl A (k42) ?_
              refine W 1 ?_
              refine iff (fun c_103 c_103' => ?_) (fun c_103 c_103' => ?_)
              · skip
                first | exact absurd c_103 (by decide) | (exfalso; simp at c_103; done) | (exfalso; simp at c_103; omega) | (exfalso; simp_all; done) | (exfalso; simp_all; omega)
              · skip
                refine W 0 ?_
                refine aw_drawc [] [1, 4] _ mo (by kernel_rfl) (HSub.refl _) ?_
                first | refine dc_ev rfl (ev_mv (v := .sl _ _) J) ?_ | refine dc_ev rfl (ev_mv (v := .own _ _ _) J) ?_ | refine dc_ev rfl (ev_mv (v := .raw _) J) ?_ | refine dc_ev rfl (ev_mv (v := .slx _ _) J) ?_ | refine dc_ev rfl (ev_mv (v := .msl _ _ _ _) J) ?_
                refine dc_eff rfl rfl (eff_append_new rfl sf45.h Tryz.underlying45 (less_nilx _) J (by simp; omega) (by simp; omega)) (by apply HL.sub; repeat' (first | exact HL.nil _ | apply HL.same | apply HL.tok)) ?_
                first | refine dc_ev rfl (ev_load_agg J rfl ty26.h rfl) ?_ | refine dc_ev rfl (ev_load_agg_i J ty26.h (by exact Nat.le_of_ble_eq_true rfl)) ?_
                refine dc_ev rfl (ev_buildSlice (es := [[_]]) sf45.h rfl rfl rfl rfl) ?_
                refine dc_eff rfl rfl (eff_append rfl sf45.h Tryz.underlying45 rfl rfl (less_slx _ _) (by simp; omega) (by simp; omega)) (by apply HL.sub; repeat' (first | exact HL.nil _ | apply HL.same | apply HL.tok)) ?_
                first | refine dc_ev rfl (ev_as (v := .sl _ _) J) ?_ | refine dc_ev rfl (ev_as (v := .own _ _ _) J) ?_ | refine dc_ev rfl (ev_as (v := .raw _) J) ?_ | refine dc_ev rfl (ev_as (v := .slx _ _) J) ?_ | refine dc_ev rfl (ev_as (v := .msl _ _ _ _) J) ?_
                refine dc_nil ?_
                refine W 4 ?_
                refine cl A (k45) ?_
                refine W 9 ?_
                refine sq_ev rfl (ev_call en45.h J (k45') ⟨J, Less.trans (less_own _ _ _) (Less.eq (by simp [figs])), J, J, trivial⟩) ?_
                refine W 8 ?_
                refine cl A (k44) ?_
                refine W 10 ?_
                refine sq_ev rfl (ev_call en44.h J (k44') ⟨J, Less.trans (less_own _ _ _) (Less.eq (by simp [figs])), J, trivial⟩) ?_
                refine W 10 ?_
                refine sq_split 152 J (fun g14_2 => ?_) (fun g14_2 => ?_)
                · skip
                  have g14_2' := g14_2
                  try simp only [qq] at g14_2'
                  first | exact absurd g14_2 (by decide) | (exfalso; simp at g14_2; done) | (exfalso; simp at g14_2; omega) | (exfalso; simp_all; done) | (exfalso; simp_all; omega)
                · skip
                  have g14_2' := g14_2
                  try simp only [qq] at g14_2'
                  refine W 4 ?_
                  refine sq_split 156 J (fun g14_6 => ?_) (fun g14_6 => ?_)
                  · skip
                    have g14_6' := g14_6
                    try simp only [qq] at g14_6'
                    first | exact absurd g14_6 (by decide) | (exfalso; simp at g14_6; done) | (exfalso; simp at g14_6; omega) | (exfalso; simp_all; done) | (exfalso; simp_all; omega)
                  · skip
                    have g14_6' := g14_6
                    try simp only [qq] at g14_6'
                    refine W 5 ?_
                    refine sq_split 161 J (fun g14_11 => ?_) (fun g14_11 => ?_)
                    · skip
                      have g14_11' := g14_11
                      try simp only [qq] at g14_11'
                      first | exact absurd g14_11 (by decide) | (exfalso; simp at g14_11; done) | (exfalso; simp at g14_11; omega) | (exfalso; simp_all; done) | (exfalso; simp_all; omega)
                    · skip
                      have g14_11' := g14_11
                      try simp only [qq] at g14_11'
                      refine W 13 ?_
                      refine sq_split 174 J (fun g14_24 => ?_) (fun g14_24 => ?_)
                      · skip
                        have g14_24' := g14_24
                        try simp only [qq] at g14_24'
                        first | exact absurd g14_24 (by decide) | (exfalso; simp at g14_24; done) | (exfalso; simp at g14_24; omega) | (exfalso; simp_all; done) | (exfalso; simp_all; omega)
                      · skip
                        have g14_24' := g14_24
                        try simp only [qq] at g14_24'
                        refine W 5 ?_
                        refine sq_split 179 J (fun g14_29 => ?_) (fun g14_29 => ?_)
                        · skip
                          have g14_29' := g14_29
                          try simp only [qq] at g14_29'
                          first | exact absurd g14_29 (by decide) | (exfalso; simp at g14_29; done) | (exfalso; simp at g14_29; omega) | (exfalso; simp_all; done) | (exfalso; simp_all; omega)
                        · skip
                          have g14_29' := g14_29
                          try simp only [qq] at g14_29'
                          refine W 2 ?_
                          refine cy A (k53) ?_
                          refine W 2 ?_
                          refine aw_cond J (fun c_184 => ?_) (fun c_184 => ?_)
                          · skip
                            have c_184' := c_184
                            try simp only [qq] at c_184'
                            first | exact absurd c_184 (by decide) | (exfalso; simp at c_184; done) | (exfalso; simp at c_184; omega) | (exfalso; simp_all; done) | (exfalso; simp_all; omega)
                          · skip
                            have c_184' := c_184
                            try simp only [qq] at c_184'
                            refine W 3 ?_
                            refine sq_split 187 J (fun g16_2 => ?_) (fun g16_2 => ?_)
                            · skip
                              have g16_2' := g16_2
                              try simp only [qq] at g16_2'
                              refine W 7 ?_
                              refine sq_split 194 J (fun g16_9 => ?_) (fun g16_9 => ?_)
                              · skip
                                have g16_9' := g16_9
                                try simp only [qq] at g16_9'
                                refine W 9 ?_
                                refine cy A (known_pure) ?_
                                refine W 2 ?_
                                exact retQ_pure (v := .raw _) rfl rfl J
                              · skip
                                have g16_9' := g16_9
                                try simp only [qq] at g16_9'
                                refine W 3 ?_
                                refine sq_split 197 J (fun g16_12 => ?_) (fun g16_12 => ?_)
                                · skip
                                  have g16_12' := g16_12
                                  try simp only [qq] at g16_12'
                                  refine W 6 ?_
                                  refine sq_split 203 J (fun g16_18 => ?_) (fun g16_18 => ?_)
                                  · skip
                                    have g16_18' := g16_18
                                    try simp only [qq] at g16_18'
                                    refine cy A (known_pure) ?_
                                    refine W 2 ?_
                                    exact retQ_pure (v := .raw _) rfl rfl J
                                  · skip
                                    have g16_18' := g16_18
                                    try simp only [qq] at g16_18'
                                    first | exact absurd g16_18 (by decide) | (exfalso; simp at g16_18; done) | (exfalso; simp at g16_18; omega) | (exfalso; simp_all; done) | (exfalso; simp_all; omega)
                                · skip
                                  have g16_12' := g16_12
                                  try simp only [qq] at g16_12'
                                  first | exact absurd g16_12 (by decide) | (exfalso; simp at g16_12; done) | (exfalso; simp at g16_12; omega) | (exfalso; simp_all; done) | (exfalso; simp_all; omega)
                            · skip
                              have g16_2' := g16_2
                              try simp only [qq] at g16_2'
                              refine W 4 ?_
                              refine sq_split 191 J (fun g16_6 => ?_) (fun g16_6 => ?_)
                              · skip
                                have g16_6' := g16_6
                                try simp only [qq] at g16_6'
                                refine W 3 ?_
                                refine sq_split 194 J (fun g16_9 => ?_) (fun g16_9 => ?_)
                                · skip
                                  have g16_9' := g16_9
                                  try simp only [qq] at g16_9'
                                  refine W 9 ?_
                                  refine cy A (known_pure) ?_
                                  refine W 2 ?_
                                  exact retQ_pure (v := .raw _) rfl rfl J
                                · skip
                                  have g16_9' := g16_9
                                  try simp only [qq] at g16_9'
                                  refine W 3 ?_
                                  refine sq_split 197 J (fun g16_12 => ?_) (fun g16_12 => ?_)
                                  · skip
                                    have g16_12' := g16_12
                                    try simp only [qq] at g16_12'
                                    refine W 6 ?_
                                    refine sq_split 203 J (fun g16_18 => ?_) (fun g16_18 => ?_)
                                    · skip
                                      have g16_18' := g16_18
                                      try simp only [qq] at g16_18'
                                      refine cy A (known_pure) ?_
                                      refine W 2 ?_
                                      exact retQ_pure (v := .raw _) rfl rfl J
                                    · skip
                                      have g16_18' := g16_18
                                      try simp only [qq] at g16_18'
                                      first | exact absurd g16_18 (by decide) | (exfalso; simp at g16_18; done) | (exfalso; simp at g16_18; omega) | (exfalso; simp_all; done) | (exfalso; simp_all; omega)
                                  · skip
                                    have g16_12' := g16_12
                                    try simp only [qq] at g16_12'
                                    first | exact absurd g16_12 (by decide) | (exfalso; simp at g16_12; done) | (exfalso; simp at g16_12; omega) | (exfalso; simp_all; done) | (exfalso; simp_all; omega)
                              · skip
                                have g16_6' := g16_6
                                try simp only [qq] at g16_6'
                                first | exact absurd g16_6 (by decide) | (exfalso; simp at g16_6; done) | (exfalso; simp at g16_6; omega) | (exfalso; simp_all; done) | (exfalso; simp_all; omega)
end Go.Proofs.YtmbknoaneglilaaGreatDoor
namespace Go.Proofs.YtmbknoaneglilaaGreatDoor
open Go Go.Ab Ni Ol
theorem mis_err {x : Sn} (hx : snOK x = true) (hl : x.l.length ≤ 1000000) : ∃ g1 g2 g : Int, APure Tryz.prog 44 [stA x.s, figs x.l, rcA x.r] (.tup [I g1, I g2, I g]) ∧ ((g = 0 ∧ misOf x ≠ none) ∨ (g = 5 ∧ misOf x = none)) := by
  have k := mistaken_pure x hl
  refine ⟨_, _, _, k, ?_⟩
  unfold misE
  rw [if_pos hx]
  cases h : misOf x with
  | none => exact .inr ⟨rfl, rfl⟩
  | some q => exact .inl ⟨rfl, by simp⟩
/-- **OutlineMore.** -/
theorem law9 (x : Sn) (sight : List (List UInt8)) (n : Int) (dark : Bool) (more : Fg) (figure : Int) : APure Tryz.prog 9 [stA x.s, figs x.l, rcA x.r, strs sight, I n, B dark, fgA more, I figure] (B true) := by
  cases hg : (fewB x.l && (shortB sight && (shortB more && (decide (askE x (stOK x.s && siOK x.s sight) = 0) && (decide (0 ≤ n ∧ n < x.s.wide * x.s.high) && (fgOK more && (decide ((x.l.length : Int) < 6) && decide (0 ≤ figure ∧ figure < x.l.length)))))))) with
  | false => exact more_gate x sight n figure dark more hg
  | true =>
    simp only [Bool.and_eq_true, decide_eq_true_eq] at hg
    obtain ⟨hfew, hsh, hsh', hask, ⟨hn0, hn⟩, hfg, hl6, hfig⟩ := hg
    obtain ⟨hx, his⟩ := askE_0.1 hask
    obtain ⟨hst, hsi⟩ := gate_bool his
    obtain ⟨n, rfl⟩ : ∃ m : Nat, n = m := ⟨n.toNat, by omega⟩
    obtain ⟨fi, rfl⟩ : ∃ m : Nat, figure = m := ⟨figure.toNat, by omega⟩
    have hl : x.l.length ≤ 1000000 := by omega
    have hl' : (plus x more).l.length ≤ 1000000 := by simp; omega
    have hx' := plus_ok hx hfg (by omega)
    have hwh := wh_le hst
    have hclo := sight_clo hst hsi
    have hshp := si_shp hst hsi
    have k34 : APure Tryz.prog 34 [figs x.l] (B true) := by have := few_pure x.l; rwa [hfew] at this
    have k23 : APure Tryz.prog 23 [strs sight] (B true) := by have := short_pure sight; rwa [hsh] at this
    have k23' : APure Tryz.prog 23 [strs more] (B true) := by have := short_pure more; rwa [hsh'] at this
    have k24 : APure Tryz.prog 24 [stA x.s] (B true) := by have := rstage_pure x.s; rwa [hst] at this
    have k25 : APure Tryz.prog 25 [fgA more] (B true) := by have := rfigure_pure more; rwa [hfg] at this
    have k37 : APure Tryz.prog 37 [stA x.s, strs sight] (B true) := by have := rsight_pure x.s sight hshp; rwa [hsi] at this
    have k36 : APure Tryz.prog 36 [stA x.s, figs x.l, rcA x.r, B true] (I 0) := by have := asked_pure x true; rwa [askE_0.2 ⟨hx, rfl⟩] at this
    have k40 := snw_pure hl hx hsi
    have k45 := told_pure x fi hl
    have k45' := told_pure (plus x more) fi hl'
    rw [if_pos (told_some hx hfig), told_some hx hfig, Int.toNat_natCast] at k45
    have hfig' : 0 ≤ (fi : Int) ∧ (fi : Int) < (plus x more).l.length := ⟨hfig.1, by simp only [List.length_append, List.length_singleton]; omega⟩
    rw [if_pos (told_some hx' hfig'), told_some hx' hfig', Int.toNat_natCast] at k45'
    obtain ⟨g1, g2, g, k44, hg⟩ := mis_err hx hl
    obtain ⟨h1, h2, h, k44', hh⟩ := mis_err hx' hl'
    have hgh : (g = 0 ∧ h = 0) ∨ (g = 5 ∧ (h = 0 ∨ h = 5)) := by
      rcases hg with ⟨a, b⟩ | ⟨a, b⟩
      · rcases hh with ⟨c, d⟩ | ⟨c, d⟩
        · exact .inl ⟨a, c⟩
        · exact absurd (mis_more d) b
      · rcases hh with ⟨c, d⟩ | ⟨c, d⟩
        · exact .inr ⟨a, .inl c⟩
        · exact .inr ⟨a, .inr c⟩
    have t6 := toldOf_len hx fi
    have u6 := toldOf_len hx' fi
    have k53 := within_pure (toldOf x fi) (toldOf (plus x more) fi) (by omega) (by omega)
    have hsub : ((toldOf (plus x more) fi).all fun n => decide (n ∈ toldOf x fi)) = true := by
      rw [List.all_eq_true]
      intro m hm
      rw [decide_eq_true_eq]
      exact told_more (by rw [byF_len]; omega) m hm
    rw [hsub] at k53
    have ha := lenS_nn (agrees x sight)
    have k42 := rcell_pure x.s sight n hst hclo hn
    by_cases h63 : chAt x.s.wide sight n = 63
    · rw [h63] at k42
      cases dark with
      | true => exact more_35y hst hclo hn hwh (by omega) hfig k34 k23 k23' k24 k37 k36 k25 k40 k45 k45' k44 k44' k53 ha t6 u6 hgh ⟨lenS_nn _, lenS_mono rest_sub⟩ k42 (snc_pure hl hx hsi hn h63 (.inl rfl))
      | false => exact more_46y hst hclo hn hwh (by omega) hfig k34 k23 k23' k24 k37 k36 k25 k40 k45 k45' k44 k44' k53 ha t6 u6 hgh ⟨lenS_nn _, lenS_mono rest_sub⟩ k42 (snc_pure hl hx hsi hn h63 (.inr rfl))
    · have hc : ¬ ((chAt x.s.wide sight n).toNat : Int) = 63 := fun e => h63 (UInt8.toNat_inj.1 (by have : (63 : UInt8).toNat = 63 := rfl; omega))
      cases dark with
      | true => exact more_35n hst hclo hn hwh (by omega) hfig k34 k23 k23' k24 k37 k36 k25 k40 k45 k45' k44 k44' k53 ha t6 u6 hgh hc k42
      | false => exact more_46n hst hclo hn hwh (by omega) hfig k34 k23 k23' k24 k37 k36 k25 k40 k45 k45' k44 k44' k53 ha t6 u6 hgh hc k42
end Go.Proofs.YtmbknoaneglilaaGreatDoor
