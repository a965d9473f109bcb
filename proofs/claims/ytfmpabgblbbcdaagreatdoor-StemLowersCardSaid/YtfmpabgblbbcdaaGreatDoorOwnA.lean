/-
  A part of the proof: conditions: none beyond each theorem's own.
-/
import Derived.Test.YtfmpabgblbbcdaaGreatDoorLogicA
import Derived.Test.YtfmpabgblbbcdaaGreatDoorLogicB
import Derived.Test.YtfmpabgblbbcdaaGreatDoorLogicC
import Derived.Deep.Slices
import Derived.OpenShut
import Derived.Carry
import Derived.Test.YtfmpabgblbbcdaaGreatDoorSpecA
import Derived.Test.YtfmpabgblbbcdaaGreatDoorLogicD
import Derived.Test.YtfmpabgblbbcdaaGreatDoorProg
import Derived.KernelRfl
import Derived.Lib.LaidTab
import Derived.Lib.ItoaNum
import Derived.Test.YtfmpabgblbbcdaaGreatDoorWalkD
import Derived.Test.YtfmpabgblbbcdaaGreatDoorLogicE
import Derived.Test.YtfmpabgblbbcdaaGreatDoorWalkG
import Derived.Laws.IdiomStrings
import Derived.Laws.IdiomCopy
import Derived.Test.YtfmpabgblbbcdaaGreatDoorShelf
import Derived.Test.YtfmpabgblbbcdaaGreatDoorWalkA
import Derived.Test.YtfmpabgblbbcdaaGreatDoorWalkB
import Derived.Test.YtfmpabgblbbcdaaGreatDoorWalkC
import Derived.Test.YtfmpabgblbbcdaaGreatDoorWalkE
import Derived.Test.YtfmpabgblbbcdaaGreatDoorWalkF
import Derived.Test.YtfmpabgblbbcdaaGreatDoorRow
set_option linter.all false
set_option maxRecDepth 100000
set_option maxHeartbeats 8000000
namespace Go.Ab
variable [Tabs]
theorem FW_room (r : Option Nat) (n : Nat) : (FW r).room n := fun _ h => by simp [FW] at h
variable {c : Ctx} {Q : AExit → St → Prop} {s : St}
end Go.Ab
namespace Go.Ab
variable [Tabs]
section tok
variable {c : Ctx} {ops : Array Oper} {Q : AExit → St → Prop} {rest : List Oper} {s : St} {i : Nat}
variable {d : Option Tmp} {t : TypeId} {p : String} {af : Array Edge}
theorem sq_append_new {x y : Operand} {st xt et et' : TypeId} {sz bytes : Nat} {es xs : List (List AV)} (hd : dOK c.nt d = true)
    (hf : SlFact c.P st et sz bytes) (hk : c.P.underlying xt = some (.slice et')) (hx : Less (s.op x) (.slx sz es)) (hy : Less (s.op y) (.sl sz xs))
    (hb : (es.length + xs.length) * bytes ≤ 140737488355328) (h63 : es.length + xs.length ≤ 9223372036854775807)
    (k : SeqWP c ops Q (i + 1) rest (St.put { s with H := s.H ++ [.tok (es ++ xs).length] } d (.own s.H.length sz (es ++ xs)))) : SeqWP c ops Q i (⟨d, .call ⟨.builtin .append, #[x, y], #[st, xt]⟩, t, p, af, none⟩ :: rest) s := by
  rw [List.length_append] at k
  refine sq_op fun e ac hs next hn' => ?_
  have hu := hx e _ (hs.op x)
  have hv := hy e _ (hs.op y)
  have hu' := hu
  rw [Rep] at hu'
  obtain ⟨a, len, hv1, hlen, hnil, hsz, hc⟩ := hu'
  refine ⟨about_FW _ _ _ _ _, ?_⟩
  show Oper.uponIn (FW c.r) 0 c.P _ ac next (lift c Q) (((Oper.semAt c.r ac.eval ⟨d, .call ⟨.builtin .append, #[x, y], #[st, xt]⟩, t, p, af, none⟩)).run c.P e.w)
  rw [semAt_of (by intro c h; cases h)]
  have hex : (execOp ac.eval ⟨d, .call ⟨.builtin .append, #[x, y], #[st, xt]⟩, t, p, af, none⟩).run c.P e.w = ((Builtin.append_ #[st, xt] t #[.slice a len len, ac.eval y]).run c.P e.w).andThen fun v w'' => .ok (.value v) w'' := by
    simp [execOp, resolve, invoke, builtin, hv1]
  rw [hex]
  subst hlen
  rcases Nat.eq_zero_or_pos xs.length with h0 | hpos
  · have : xs = [] := List.length_eq_zero_iff.1 h0
    subst this
    rw [run_append_nothing' hf hk hv (Nat.le_refl _)]
    obtain ⟨e', hw, hG, le, hH, hμ, hs'⟩ := sim_tok hs es.length
    have := Rep.mono le _ (less_slx _ _ _ _ hu)
    rw [hv1, Rep] at this
    obtain ⟨a', len', cap', q1, q2, q3, q4, q5, q6⟩ := this
    cases q1
    show next _ e.w
    rw [← hw]
    refine hn' _ e' _ k (hs'.put hd ?_)
    rw [Rep, List.append_nil]
    refine ⟨a, es.length, es.length, rfl, rfl, Nat.le_refl _, fun h => hnil h, hsz, q6, by rw [hH]; simp, ⟨es.length, by unfold Env.T; rw [hH]; simp [tokOf], Nat.le_refl _⟩, fun _ ad _ hlt => absurd hlt (Nat.lt_irrefl _)⟩
  · obtain ⟨e1, hw1, hG1, le1, hH1, hμ1, hs1⟩ := sim_tok hs 0
    have hlast : e1.H[s.H.length]? = some (.tok 0) := by rw [hH1]; simp
    have hTj : e1.T s.H.length = some 0 := by unfold Env.T; rw [hlast]; rfl
    have hjl : s.H.length < e1.H.length := by rw [hH1]; simp
    have hv' : Rep e1 (.sl sz xs) (ac.eval y) := Rep.mono le1 _ hv
    have hc' : ∀ ad, a = some ad → (es.length ≠ 0 → ad.spot = none) ∧ ElemsAt e1 es ad.block ad.off := fun ad h => ⟨(hc ad h).1, ElemsAt.mono le1 es (hc ad h).2⟩
    obtain ⟨cap', cs, w', hrun, hw, hst, hle2, hcs, hcells, hall⟩ := run_append_row (P := c.P) (t := t) (cap := es.length) hs1.ok hf hk rfl hnil hsz hc' hv' (by omega) hb h63
    have hj : ({ s with H := s.H ++ [.tok 0] } : St).H[s.H.length]? = some (.tok 0) := by simp
    obtain ⟨hsim, hle'⟩ := hs1.grew (j := s.H.length) (b := e1.w.heap.size) (n := 0) (n' := es.length + xs.length) (g := (es.length + xs.length) * sz) (w' := w') hst hj (by omega) (.inr rfl) (by rw [hs1.ok.fresh _ (Nat.le_refl _)]; omega) (by simp [hw]) (by simp [hw])
      (fun b' hb' hne => by rw [hw, Array.getElem?_push, if_neg hne]) (fun m hmlt => by rw [hs1.ok.fresh _ (Nat.le_refl _)] at hmlt; omega) (fun b' hb' h => by simp [hw] at hb'; omega)
    rw [← hw1, hrun]
    have hset : (s.H ++ [AObj.tok 0]).set s.H.length (.tok (es.length + xs.length)) = s.H ++ [.tok (es.length + xs.length)] := by
      rw [List.set_append_right _ _ (Nat.le_refl _)]; simp
    have hsim' : Sim c { s with H := s.H ++ [.tok (es.length + xs.length)] } (e1.grew s.H.length e1.w.heap.size (es.length + xs.length) ((es.length + xs.length) * sz) w') ac := by
      rw [← hset]; exact hsim
    refine hn' _ _ _ k (hsim'.put hd ?_)
    rw [Rep]
    refine ⟨_, _, _, rfl, by simp, hle2, (fun h => by cases h), hall, fun ad had => ?_, by simpa [Env.grew] using hjl, ⟨es.length + xs.length, by rw [Env.grew_T hjl, if_pos rfl], by simp⟩, fun _ ad had hlt => ?_⟩
    · simp only [Option.some.injEq] at had; subst had
      refine ⟨fun _ => rfl, ElemsAt.flat.2 ?_⟩
      have hxt : Ext e1 (e1.row ((es.length + xs.length) * sz) w') := Env.row_ext hs1.ok hw hst
      have le3 : (e1.row ((es.length + xs.length) * sz) w').Le (e1.grew s.H.length e1.w.heap.size (es.length + xs.length) ((es.length + xs.length) * sz) w') := by
        have hT : ∀ i, (e1.row ((es.length + xs.length) * sz) w').T i = e1.T i := fun i => rfl
        refine ⟨by simp [Env.grew, Env.row], fun i hi ht => ?_, fun b' off ho => ⟨ho, rfl⟩, fun i m ht => ?_⟩
        · rw [hT] at ht
          have hij : i ≠ s.H.length := fun h => by subst h; rw [hTj] at ht; cases ht
          rw [Env.grew_T hjl, if_neg hij]; exact ⟨ht, fun _ hb => by simpa [Env.grew, hij, Env.row] using hb⟩
        · rw [hT] at ht
          by_cases hij : i = s.H.length
          · subst hij
            have : m = 0 := by rw [hTj] at ht; exact (Option.some.inj ht).symm
            subst this
            exact ⟨_, by rw [Env.grew_T hjl, if_pos rfl], by omega, fun h => by omega⟩
          · exact ⟨m, by rw [Env.grew_T hjl, if_neg hij]; exact ht, Nat.le_refl _, fun _ => ⟨by simp [Env.grew, hij, Env.row], fun b' cs t _ hh => ⟨rfl, cs, hh, rfl⟩⟩⟩
      exact CellsAt.mono le3 _ hcells
    · simp only [Option.some.injEq] at had; subst had
      exact ⟨by simp [Env.grew], by simp [Env.grew], cs, et, by simp [Env.grew, hw], by simp [hcs]⟩
end tok
section eff
variable {c : Ctx} {Q : AExit → St → Prop} {H : List AObj} {df : List ADef} {ρ : Operand → AV} {d : Option Tmp} {t : TypeId} {p : String} {af : Array Edge}
theorem eff_append_new {x y : Operand} {st xt et et' : TypeId} {sz bytes : Nat} {es xs : List (List AV)} (hd : dOK c.nt d = true)
    (hf : SlFact c.P st et sz bytes) (hk : c.P.underlying xt = some (.slice et')) (hx : Less (ρ x) (.slx sz es)) (hy : Less (ρ y) (.sl sz xs))
    (hb : (es.length + xs.length) * bytes ≤ 140737488355328) (h63 : es.length + xs.length ≤ 9223372036854775807) :
    Eff c Q ⟨d, .call ⟨.builtin .append, #[x, y], #[st, xt]⟩, t, p, af, none⟩ H df ρ (.own H.length sz (es ++ xs)) (H ++ [.tok (es ++ xs).length]) :=
  eff_of rfl fun s hH hop Q k => by
    subst hH
    exact sq_append_new hd hf hk (by rw [hop x (by simp [Op.operands, Call.operands])]; exact hx) (by rw [hop y (by simp [Op.operands, Call.operands])]; exact hy) hb h63 k
end eff
end Go.Ab
namespace Go.Ab
open Go.ChangeShapes Go.WideShapes
variable [Tabs]
theorem env0_ok {w : World} (h : Tabs.is w) (hb : ∀ b, Tabs.blk b → b < w.heap.size) : EnvOK (env0 w) :=
  ⟨fun b hb => by have hb' : w.heap.size ≤ b := hb
                  have : w.heap[b]? = none := by simpa using hb'
                  simp [env0, this], fun i o h => by simp [env0] at h, fun i j b hi => by simp [env0] at hi, fun i b hi => by simp [env0] at hi, h, fun b hk => ⟨hb b hk, fun i hi => by simp [env0] at hi⟩⟩
section
variable {H : Type} {enc : TypeId × Value → H} {P : Program} {w : World} {base : Nat} {spare : Nat → Bool} {held : Bool}
theorem trodAll_stays (hl : laidOutB P = true) {W W' : World} (hheap : ∀ b, b < W.heap.size → W'.heap[b]? = W.heap[b]?) {sp' : Nat → Bool} :
    ∀ {ts : List TypeId} {vs : List Value} {ds : List (DataW H)} {ps : List MemPlace}, (∀ t ∈ ts, P.readableRec t = true ∧ t < P.types.size) → DataW.TrodAll enc P W base (fun _ => true) true ts vs ds ps → (∀ p ∈ ps, p.block < W.heap.size) → (∀ p ∈ ps, sp' p.block = true) →
      DataW.TrodAll enc P W' base sp' true ts vs ds ps
  | [], _, _, _, _, h, _, _ => by
    obtain ⟨rfl, rfl, rfl⟩ := trodAll_nil h
    exact trodAll_mk0
  | t :: ts, _, _, _, ht, h, hlt, hs => by
    obtain ⟨v, vs1, d, ds1, a, b, rfl, rfl, rfl, h1, h2⟩ := trodAll_cons h
    refine trodAll_cons_mk (WideElems.Trod_stays hl (ht t (by simp)).1 (ht t (by simp)).2 h1 (fun p hp => ?_) (fun p hp => hs p (by simp [hp]))) (trodAll_stays hl hheap (fun u hu => ht u (List.mem_cons_of_mem _ hu)) h2 (fun p hp => hlt p (by simp [hp])) (fun p hp => hs p (by simp [hp])))
    have hb := hheap p.block (hlt p (by simp [hp]))
    cases p with
    | cell b o => exact cell?_of_heap hb
    | map b => exact hb
/-- **What a law's row asks of a call that returns true and leaves what it met.** -/
theorem post_true {f : Func} {s : ChangeSpec} {W W' : World} {args : Array Value} {ds gs : List (DataW H)} {before : List MemPlace} {tb : TypeId} (hl : laidOutB P = true) (hread : ∀ t ∈ f.params.toList, P.readableRec t = true ∧ t < P.types.size)
    (hres : f.resultTypes = #[tb]) (htb : P.underlying tb = some .bool) (hvars : s.vars = []) (hspec : (s.fn H ds).results = [.lit (.bool true)] ∧ (s.fn H ds).args = ds ∧ (s.fn H ds).vars = [])
    (hW : DataW.Whole enc P f.params.toList s.vars false W args.toList ds gs before) (hheap : ∀ b, b < W.heap.size → W'.heap[b]? = W.heap[b]?) (hst : Still W W') :
    s.post enc P f false true false false W args (.bool true) W' := by
  have hlt := hW.lt
  have hW0 := hW
  obtain ⟨p, q, h1, h2, rfl, _, _⟩ := hW
  rw [hvars] at h2
  obtain ⟨rfl, rfl⟩ := trodVars_none h2
  simp only [List.append_nil] at hlt
  obtain ⟨e1, e2, e3⟩ := hspec
  refine ⟨ds, [], p ++ [], [], p, [], hW0, ?_, ?_, ?_, ?_, fun h => by cases h⟩
  · rw [List.append_nil, e1, hres]
    exact trodAll_cons_mk (RowKit.shut_bool htb _) trodAll_mk0
  · rw [List.append_nil, e2]
    exact trodAll_stays hl hheap hread h1 hlt (fun p hp => by simpa using hlt p hp)
  · rw [List.append_nil, e3, hvars]; rfl
  · refine ⟨hst.1, hst.2, fun i hi => ?_⟩
    rw [hheap i hi]
    split <;> simp_all
theorem APure.law {f : FuncId} {args : List AV} {W : World} {vs : Array Value} (hc : APure P f args (.raw (.bool true))) (ht : Tabs.is W) (hb : ∀ b, Tabs.blk b → b < W.heap.size) (hr : RepL (env0 W) args vs.toList) :
    Calls P f vs W fun x W' => x = .returned (.bool true) ∧ (∀ b, b < W.heap.size → W'.heap[b]? = W.heap[b]?) ∧ Still W W' := by
  refine ((hc (env0 W) vs (env0_ok ht hb) hr).calls (fun k => FW_room none k)).mono ?_
  rintro x w' ⟨u, e', rfl, rfl, hx, hu⟩
  rw [Rep] at hu; subst hu
  exact ⟨rfl, hx.heap, hx.still⟩
end
end Go.Ab
namespace Hd
open Ni (inn)
theorem findSome_inv {α : Type} {f : Nat → Option α} : ∀ {n : Nat} {a : α}, (List.range n).findSome? f = some a → ∃ i, i < n ∧ f i = some a ∧ ∀ j, j < i → f j = none
  | 0, a, h => by simp at h
  | n + 1, a, h => by
    rw [List.range_succ, List.findSome?_append] at h
    cases hp : (List.range n).findSome? f with
    | some b =>
      rw [hp] at h; simp only [Option.some_or, Option.some.injEq] at h; subst h
      obtain ⟨i, h1, h2, h3⟩ := findSome_inv hp
      exact ⟨i, by omega, h2, h3⟩
    | none =>
      rw [hp] at h
      rw [List.findSome?_eq_none_iff] at hp
      refine ⟨n, by omega, by simpa using h, fun j hj => hp j (List.mem_range.2 hj)⟩
end Hd
namespace Hd
open Ni (inn)
def befB : List Int → List Int → Bool
  | x :: a, y :: b => if x = y then befB a b else decide (x < y)
  | _, _ => false
theorem plan_none_inv {ok : List Int → Bool} : ∀ {many : Nat} {cs now : List Int}, plan ok many cs now = none → ∀ q, List.Sublist q cs → q.length = many → ok (now ++ q) = false
  | 0, cs, now, h, q, hq, hl => by
    have : q = [] := List.length_eq_zero_iff.1 hl
    subst this
    unfold plan at h
    split at h
    · cases h
    · rename_i hn; rw [List.append_nil]; simpa using hn
  | many + 1, [], now, _, q, hq, hl => by
    have := List.Sublist.length_le hq
    simp only [List.length_nil] at this; omega
  | many + 1, c :: cs, now, h, q, hq, hl => by
    unfold plan at h
    split at h
    · cases h
    · rename_i hn
      cases hq with
      | cons _ hq => exact plan_none_inv h q hq hl
      | cons_cons _ hq =>
        rename_i q'
        have := plan_none_inv hn q' hq (by simpa using hl)
        rwa [List.append_assoc] at this
theorem plan_some_inv {ok : List Int → Bool} : ∀ {many : Nat} {cs now l : List Int}, cs.Pairwise (· < ·) → plan ok many cs now = some l →
    ∃ q, l = now ++ q ∧ List.Sublist q cs ∧ q.length = many ∧ ok l = true ∧ ∀ q', List.Sublist q' cs → q'.length = many → ok (now ++ q') = true → befB q' q = false
  | 0, cs, now, l, _, h => by
    unfold plan at h
    split at h
    · rename_i hn
      injection h with h; subst h
      exact ⟨[], by simp, List.nil_sublist _, rfl, hn, fun q' _ h2 _ => by have := List.length_eq_zero_iff.1 h2; subst this; rfl⟩
    · cases h
  | many + 1, [], now, l, _, h => by unfold plan at h; cases h
  | many + 1, c :: cs, now, l, hp, h => by
    have hp' := List.pairwise_cons.1 hp
    unfold plan at h
    split at h
    · rename_i l' hn
      injection h with h; subst h
      obtain ⟨q, h1, h2, h3, h4, h5⟩ := plan_some_inv hp'.2 hn
      refine ⟨c :: q, by rw [h1, List.append_assoc]; rfl, .cons_cons _ h2, by rw [List.length_cons, h3], h4, fun q' k1 k2 k3 => ?_⟩
      cases k1 with
      | cons _ k1 =>
        cases q' with
        | nil => cases k2
        | cons x q' =>
          have : c < x := hp'.1 x (k1.subset (by simp))
          unfold befB
          rw [if_neg (by omega)]; simp; omega
      | cons_cons _ k1 =>
        rename_i q''
        unfold befB
        rw [if_pos rfl]
        exact h5 q'' k1 (by simpa using k2) (by rwa [List.append_assoc])
    · rename_i hn
      obtain ⟨q, h1, h2, h3, h4, h5⟩ := plan_some_inv hp'.2 h
      refine ⟨q, h1, .cons _ h2, h3, h4, fun q' k1 k2 k3 => ?_⟩
      cases k1 with
      | cons _ k1 => exact h5 q' k1 k2 k3
      | cons_cons _ k1 =>
        rename_i q''
        have := plan_none_inv hn q'' k1 (by simpa using k2)
        rw [List.append_assoc] at this
        rw [show now ++ c :: q'' = now ++ ([c] ++ q'') from rfl, this] at k3; cases k3
theorem sub_ms {n : Nat} {l : List Int} (h : List.Sublist l (every n)) : msOK n l := ⟨(every_rising n).sublist h, fun x hx => mem_every.1 (h.subset hx)⟩
end Hd
namespace St
open Ni (inn)
open Hd (every getD_at mem_every)
def handsK (p : Ply) (x : Scn) (k : Nat) : Int := max 0 (x.knocks - 1) + ((x.moved.take k).map fun f => (fg p f).hands).sum
theorem handsK_0 (p : Ply) (x : Scn) : handsK p x 0 = max 0 (x.knocks - 1) := by simp [handsK]
theorem handsK_succ {p : Ply} {x : Scn} {k : Nat} (h : k < x.moved.length) : handsK p x (k + 1) = handsK p x k + (fg p x.moved[k]).hands := by
  unfold handsK; rw [List.take_succ_eq_append_getElem h, List.map_append, List.sum_append]; simp; omega
theorem handsK_all (p : Ply) (x : Scn) : handsK p x x.moved.length = hands p x := by unfold handsK hands; rw [List.take_length]
end St
namespace St
open Ni (inn)
open Hd (every getD_at mem_every every_rising)
theorem okL_inj {b : Bool} {p : Ply} {x : Scn} {l : List Int} (h : okL b p x l = true) : inj l = true := by
  unfold okL okI plc at h; unfold inj
  simp only [Bool.and_eq_true, Bool.not_eq_true', decide_eq_false_iff_not] at h ⊢
  exact fun q => h.1.1 (.inr q)
theorem arr_filter (b : Bool) (p : Ply) (x : Scn) : arr b p x = (dfs inj p.hts.length x.rest.length []).filter (suits b p x) := by
  unfold arr
  rw [dfs_filter (ok := inj) (fun l h => okL_inj h)]
  exact List.filter_congr fun l _ => suits_good b p x l
def stands (p : Ply) (x : Scn) (l : List Int) : Bool := decide (∀ i, i < l.length → ¬ (l.getD i 0 ∈ l.take i ∨ l.getD i 0 ∈ x.taken ∨ ((rf p x i).side = 1 ∧ p.left ≤ l.getD i 0) ∨ ((rf p x i).side = 2 ∧ l.getD i 0 < p.left)))
def ranks (p : Ply) (x : Scn) (l : List Int) : Bool := decide (∀ i, i < l.length → ht p (l.getD i 0) ≤ (rf p x i).rank ∧ ∀ k, k < l.length → clash p x l i k = false)
theorem rf_B {p : Ply} (B : PlB p) {x : Scn} (X : ScB p x) {i : Nat} (hi : i < x.rest.length) : (1 ≤ (rf p x i).side ∧ (rf p x i).side ≤ 3) ∧ (1 ≤ (rf p x i).rank ∧ (rf p x i).rank ≤ 9) := by
  have h := (rising_iff.1 X.rs).2 x.rest[i] (List.getElem_mem hi)
  unfold rf; rw [getD_at hi]
  exact ⟨(fg_B B h.1 h.2).1, (fg_B B h.1 h.2).2.1⟩
theorem plc_stands {p : Ply} (B : PlB p) {x : Scn} (X : ScB p x) {l : List Int} {i : Nat} (hi : i < x.rest.length) :
    plc p x l i = true ↔ ¬ (l.getD i 0 ∈ l.take i ∨ l.getD i 0 ∈ x.taken ∨ ((rf p x i).side = 1 ∧ p.left ≤ l.getD i 0) ∨ ((rf p x i).side = 2 ∧ l.getD i 0 < p.left)) := by
  have hb := (rf_B B X hi).1
  unfold plc lf
  rw [Bool.and_eq_true, Bool.not_eq_true', decide_eq_false_iff_not, Bool.or_eq_true, decide_eq_true_eq, beq_iff_eq, decide_eq_decide]
  constructor
  · rintro ⟨h1, h2⟩ h3
    rcases h3 with h3 | h3 | h3 | h3
    · exact h1 (.inr h3)
    · exact h1 (.inl h3)
    · rcases h2 with h2 | h2 <;> omega
    · rcases h2 with h2 | h2 <;> omega
  · intro h
    refine ⟨fun q => h (by rcases q with q | q; exact .inr (.inl q); exact .inl q), ?_⟩
    have h3 : ¬ ((rf p x i).side = 1 ∧ p.left ≤ l.getD i 0) := fun q => h (.inr (.inr (.inl q)))
    have h4 : ¬ ((rf p x i).side = 2 ∧ l.getD i 0 < p.left) := fun q => h (.inr (.inr (.inr q)))
    omega
theorem clash_self (p : Ply) (x : Scn) (l : List Int) (i : Nat) : clash p x l i i = false := by unfold clash; simp
theorem suits_stands {p : Ply} (B : PlB p) {x : Scn} (X : ScB p x) {l : List Int} (hl : l.length = x.rest.length) : suits false p x l = stands p x l := by
  unfold suits stands
  rw [decide_eq_decide]
  refine forall_congr' fun i => forall_congr' fun hi => ?_
  unfold okI; rw [← plc_stands B X (by omega)]; simp
theorem suits_ranks {p : Ply} (B : PlB p) {x : Scn} (X : ScB p x) {l : List Int} (hl : l.length = x.rest.length) : suits true p x l = (ranks p x l && stands p x l) := by
  rw [← suits_stands B X hl]
  unfold suits ranks
  rw [Bool.eq_iff_iff, Bool.and_eq_true, decide_eq_true_eq, decide_eq_true_eq, decide_eq_true_eq]
  unfold okI low rkd
  simp only [Bool.and_eq_true, Bool.or_eq_true, decide_eq_true_eq, Bool.not_true, Bool.not_false, true_or, and_true, Bool.false_eq_true, false_or]
  constructor
  · intro h
    refine ⟨fun i hi => ⟨(h i hi).2.1, fun k hk => ?_⟩, fun i hi => (h i hi).1⟩
    rcases Nat.lt_trichotomy i k with q | q | q
    · exact ((h k hk).2.2 i q).1
    · subst q; exact clash_self _ _ _ _
    · exact ((h i hi).2.2 k q).2
  · rintro ⟨h1, h2⟩ i hi
    exact ⟨h2 i hi, (h1 i hi).1, fun j hj => ⟨(h1 j (by omega)).2 i hi, (h1 i hi).2 j (by omega)⟩⟩
def plays (p : Ply) : Bool := (failsAt p).isNone
theorem plays_iff {p : Ply} : plays p = true ↔ ∀ j, j < p.scs.length → can p (sc p j) = true := by
  unfold plays
  constructor
  · intro h; exact fails_none (Option.isNone_iff_eq_none.1 h)
  · intro h; rw [fails_no h]; rfl
end St
namespace Go.Proofs.YtfmpabgblbbcdaaGreatDoor
open Go Go.Ab Ni St
open Hd hiding sz
abbrev C (c : UInt8) : AV := .raw (.int .u8 c.toNat)
theorem rin_pure (n lo hi : Int) : APure Tryz.prog 77 [I n, I lo, I hi] (B (inn n lo hi)) := by
  refine ap Tryz.func77 (fun e0 he0 => ?_)
  refine wz 5 ?_
  refine sz 10 (fun g1 g1' => ?_) (fun g1 g1' => ?_)
  ·refine wz 5 ?_
   exact rz rfl (Less.eq (by simp [inn, *]))
  refine wz 5 ?_
  exact rz rfl (Less.eq (by simp [inn, *]))
end Go.Proofs.YtfmpabgblbbcdaaGreatDoor
namespace Go.Proofs.YtfmpabgblbbcdaaGreatDoor
open Go Go.Ab Ni St
open Hd hiding sz
theorem xlower_b1 {p : Ply} (hh : p.hts.length ≤ 1000000) (hf : p.figs.length ≤ 1000000) (hs : p.scs.length ≤ 1000000) (hx : ∀ x ∈ p.scs, x.moved.length ≤ 1000000 ∧ x.rest.length ≤ 1000000 ∧ x.taken.length ≤ 1000000) (h1 : plOK p = false) : APure Tryz.prog 34 [plA p] (.tup [I 0, I 2]) := by
  refine ap Tryz.func34 (fun e0 he0 => ?_)
  refine vz 3 ?_
  refine sq_nil ?_
  refine aw_seq ?_
  refine aw_seq ?_
  have hpl := isplay_pure p hh hf hs hx
  rw [h1] at hpl
  refine wz 1 ?_
  refine kz az (hpl) ?_
  refine wz 4 ?_
  exact retQ_pure (v := .tup [.raw _, .raw _]) rfl rfl (less_tup ⟨jz, jz, trivial⟩)
theorem xlower_no {p : Ply} (hh : p.hts.length ≤ 1000000) (hf : p.figs.length ≤ 1000000) (hs : p.scs.length ≤ 1000000) (hx : ∀ x ∈ p.scs, x.moved.length ≤ 1000000 ∧ x.rest.length ≤ 1000000 ∧ x.taken.length ≤ 1000000) (h1 : plOK p = true) (h2 : lower p = none) : APure Tryz.prog 34 [plA p] (.tup [I 0, I 5]) := by
  refine ap Tryz.func34 (fun e0 he0 => ?_)
  refine vz 3 ?_
  refine sq_nil ?_
  refine aw_seq ?_
  refine aw_seq ?_
  have hpl := isplay_pure p hh hf hs hx
  rw [h1] at hpl
  have gP := plOK_B h1
  have hns := gP.ns
  have hnh := gP.nh
  have hht := plOK_ht h1
  refine wz 1 ?_
  refine kz az (hpl) ?_
  refine vz 2 ?_
  refine aw_skip ?_
  refine aw_seq ?_
  refine aw_seq ?_
  refine aw_sub (sub_iptrK [] 1 (j := 0) (l := plC p) rfl rfl) ?_
  refine nz ?_
  refine wz 1 ?_
  refine aw_loopk (ι := { n : Nat // n ≤ 10 ∧ ∀ j, j < n → plays0 (lowP p j) = false }) [1] (fun g => [(12, I (g.1 : Nat))]) (fun H g => H) (fun g => 10 - g.1) (⟨0, Nat.zero_le _, by omega⟩) ⟨jz, jz, trivial⟩ rfl ?_
  rintro ⟨n, hn, hno⟩
  refine nz ?_
  refine wz 1 ?_
  refine iz (fun c_13 c_13' => ?_) (fun c_13 c_13' => ?_)
  ·have hn10 : n < 10 := by omega
   refine vz 5 ?_
   refine sq_nil ?_
   refine aw_seq ?_
   refine nz ?_
   refine wz 2 ?_
   refine sq_call (args := [ints p.hts]) rfl en91.h jz ⟨jz, trivial⟩ (clone_y (by omega) _) ?_ (by rintro v H' ⟨a, h, _⟩; cases h)
   rintro v H' ⟨a, h, ho⟩
   cases h
   rcases ho with ⟨_, hq1, _⟩ | ⟨cap, hq1, hq2, hq3, rfl, rfl⟩
   ·exfalso; rw [List.map_eq_nil_iff] at hq1; rw [hq1] at hnh; exact absurd hnh.1 (by decide)
   simp only [List.length_map] at hq1 ⊢
   refine nz ?_
   refine vz 2 ?_
   refine sq_nil ?_
   refine aw_seq ?_
   refine aw_seq ?_
   refine nz ?_
   refine wz 2 ?_
   refine sq_ev rfl (ev_len_msl sl22.h jz) ?_
   refine wz 1 ?_
   refine aw_loopk (ι := { i : Nat // i ≤ p.hts.length }) [1, 4, 5, 12, 22] (fun g => [(23, I (g.1 : Nat))]) (fun H g => [.dead, .cells [I p.left, .msl 2 0 p.hts.length cap, fgs p.figs, scs p.scs], .cells (((lowK p n g.1).map fun x => [I x]).flatten ++ List.replicate ((cap - p.hts.length) * 1) .any)]) (fun g => p.hts.length - g.1) (⟨0, Nat.zero_le _⟩) ⟨jz, jz, jz, jz, jz, jz, trivial⟩ (by show _ = _; rw [lowK_zero]; rfl) ?_
   rintro ⟨i, hi⟩
   refine nz ?_
   refine wz 1 ?_
   refine iz (fun c_24 c_24' => ?_) (fun c_24 c_24' => ?_)
   ·have hil : i < p.hts.length := by omega
    have eR := (fl_set (f := fun x => [I x]) (sz := 1) (fun a => rfl) (lowK p n i) (List.replicate ((cap - p.hts.length) * 1) AV.any) (i := i) (by rw [lowK_len (by omega)]; exact hil) (p.hts[i] - (n : Int))).trans (by rw [← lowK_succ hil])
    refine vz 2 ?_
    refine sq_nil ?_
    have hbh := hht _ (List.getElem_mem hil)
    refine wz 3 ?_
    refine sq_ev rfl (ev_index_msl (k := i) sl22.h jz jz rfl hil) ?_
    refine sq_ev rfl (ev_load (v := I p.hts[i]) jz rfl ty3.h (hts_row hil)) ?_
    refine wz 1 ?_
    refine sq_ev rfl (ev_sub (q := p.hts[i] - n) jz jz (wr (by omega) (by omega))) ?_
    refine sq_ev rfl (ev_index_msl (k := i) sl22.h jz jz rfl hil) ?_
    refine sq_store (j := 2) (off := 0 + i * 1) rfl jz jz rfl rfl ty3.h rfl (Nat.ble_eq_true_of_le (by rw [List.length_append, fl_len (f := fun x => [I x]) (sz := 1) (fun a => rfl), lowK_len (by omega)]; omega)) ?_
    refine wz 2 ?_
    exact ⟨⟨i + 1, by omega⟩, by simp only; omega, sb 3 ⟨jz, jz, jz, jz, jz, jz, trivial⟩ (hH := (congrArg (fun L => [AObj.dead, .cells [I p.left, .msl 2 0 p.hts.length cap, fgs p.figs, scs p.scs], .cells L]) eR)) (h2 := (by simp [objsIn, AObj.inB, AV.inB, AV.inL, inL_row]))⟩
   obtain rfl : i = p.hts.length := by omega
   refine aw_exit ?_
   refine aw_seq ?_
   rw [lowK_all]
   refine aw_sub (sub_freeze (j := 2) (n := p.hts.length) (cap := cap) (sz := 1) (es := (lowP p n).hts.map fun x => [I x]) (rest := List.replicate ((cap - p.hts.length) * 1) .any) (sl' := [(1, .iptr (plC p)), (4, I n), (5, .ptr 1 0), (12, I n)]) rfl (by simp [lowP]) (fun q hq => by obtain ⟨x, _, rfl⟩ := List.mem_map.1 hq; rfl) (fun q hq => ?_) (FzH.same _ (by decide) (FzH.cells (by decide) (FzL.cons (Fz.same _) (FzL.cons Fz.frozen (FzL.cons (Fz.same _) (FzL.cons (Fz.same _) FzL.nil)))) (FzH.dead _ rfl (FzH.nil _))))) ?_
   ·simp only [List.mem_cons, List.not_mem_nil, or_false] at hq; rcases hq with rfl | rfl | rfl | rfl <;> exact Fz.same _
   refine nz ?_
   obtain ⟨fa, fb, hfa⟩ := fails_any (lowP_B gP hht hn10)
   refine wz 1 ?_
   refine kz az (hfa) ?_
   refine wz 8 ?_
   refine iz (fun c_41 c_41' => ?_) (fun c_41 c_41' => ?_)
   ·exfalso
    have hpn : plays0 (lowP p n) = true := by have h := c_41; unfold plays0; cases hz : failsAt (lowP p n) with | some a => (rw [hz] at h; simp at h) | none => rfl
    have h3 := lower_some hn10 hpn hno
    rw [h2] at h3; cases h3
   have hpn : plays0 (lowP p n) = false := by have h := c_41; unfold plays0; cases hz : failsAt (lowP p n) with | none => (rw [hz] at h; simp at h) | some a => rfl
   refine wz 2 ?_
   exact ⟨⟨n + 1, by omega, fun j hj => (by by_cases e : j = n; (subst e; exact hpn); exact hno j (by omega))⟩, by simp only; omega, sb 1 ⟨jz, jz, trivial⟩⟩
  obtain rfl : n = 10 := by omega
  refine wz 2 ?_
  exact retQ_pure (v := .tup [.raw _, .raw _]) rfl rfl (less_tup ⟨jz, jz, trivial⟩)
end Go.Proofs.YtfmpabgblbbcdaaGreatDoor
namespace Go.Proofs.YtfmpabgblbbcdaaGreatDoor
open Go Go.Ab Ni St
open Hd hiding sz
section app
variable {c : Ctx} {ops : Array Oper} {Q : AExit → St → Prop} {rest : List Oper} {i : Nat} {sl : List (Nat × AV)} {df : List ADef}
variable {d : Option Tmp} {t : TypeId} {pp : String} {af : Array Edge}
end app
theorem xleaves_b1 {p : Ply} (hh : p.hts.length ≤ 1000000) (hf : p.figs.length ≤ 1000000) (hs : p.scs.length ≤ 1000000) (hx : ∀ x ∈ p.scs, x.moved.length ≤ 1000000 ∧ x.rest.length ≤ 1000000 ∧ x.taken.length ≤ 1000000) (h1 : plOK p = false) : APure Tryz.prog 35 [plA p] (.tup [ints [], I 2]) := by
  refine ap Tryz.func35 (fun e0 he0 => ?_)
  refine vz 3 ?_
  refine sq_nil ?_
  refine aw_seq ?_
  refine aw_seq ?_
  have hpl := isplay_pure p hh hf hs hx
  rw [h1] at hpl
  refine wz 1 ?_
  refine kz az (hpl) ?_
  refine wz 4 ?_
  exact retQ_pure (v := .tup [.raw (.slice none 0 0), .raw _]) rfl rfl (less_tup ⟨less_nil 1, jz, trivial⟩)
end Go.Proofs.YtfmpabgblbbcdaaGreatDoor
namespace Go.Proofs.YtfmpabgblbbcdaaGreatDoor
open Go Go.Ab Ni St
open Hd hiding sz
instance en19 : EnT Tryz.prog 19 := ⟨Ent.of Tryz.func19 (by kernel_rfl) rfl⟩
instance en22 : EnT Tryz.prog 22 := ⟨Ent.of Tryz.func22 (by kernel_rfl) rfl⟩
instance en27 : EnT Tryz.prog 27 := ⟨Ent.of Tryz.func27 (by kernel_rfl) rfl⟩
instance en77 : EnT Tryz.prog 77 := ⟨Ent.of Tryz.func77 (by kernel_rfl) rfl⟩
instance en78 : EnT Tryz.prog 78 := ⟨Ent.of Tryz.func78 (by kernel_rfl) rfl⟩
instance en95 : EnT Tryz.prog 95 := ⟨Ent.of Tryz.func95 (by kernel_rfl) rfl⟩
theorem all_of {α : Type} {q : α → Bool} {l : List α} (h : ∀ j, (hj : j < l.length) → q l[j] = true) : l.all q = true := List.all_eq_true.2 fun x hx => by obtain ⟨j, hj, rfl⟩ := List.getElem_of_mem hx; exact h j hj
theorem all_bad {α : Type} {q : α → Bool} {l : List α} {i : Nat} (hi : i < l.length) (h : q l[i] = false) : l.all q = false := by rw [List.all_eq_false]; exact ⟨_, List.getElem_mem hi, by rw [h]; simp⟩
theorem all_sym (a b : List Int) : (a.all fun n => !decide (n ∈ b)) = b.all fun n => !decide (n ∈ a) := by
  rw [Bool.eq_iff_iff, List.all_eq_true, List.all_eq_true]
  simp only [Bool.not_eq_true', decide_eq_false_iff_not]
  exact ⟨fun h n hn hm => h n hm hn, fun h n hn hm => h n hm hn⟩
def shX (x : Scn) : Bool := decide (x.moved.length ≤ 10) && decide (x.rest.length ≤ 10) && decide (x.taken.length ≤ 10)
def shB (p : Ply) : Bool := decide (p.hts.length ≤ 10) && decide (p.figs.length ≤ 8) && decide (p.scs.length ≤ 7) && decide (∀ i, (hi : i < p.scs.length) → i < 8 → shX p.scs[i] = true)
theorem shB_row {p : Ply} {i : Nat} (hi : i < p.scs.length) (h8 : i < 8) (h : shX p.scs[i] = false) : shB p = false := by
  unfold shB
  rw [decide_eq_false (p := ∀ i, (hi : i < p.scs.length) → i < 8 → shX p.scs[i] = true) (fun q => by rw [q i hi h8] at h; cases h)]; simp
theorem shB_fin {p : Ply} (h : ∀ i, (hi : i < p.scs.length) → i < 8 → shX p.scs[i] = true) : shB p = (decide (p.hts.length ≤ 10) && decide (p.figs.length ≤ 8) && decide (p.scs.length ≤ 7)) := by
  unfold shB; rw [decide_eq_true h, Bool.and_true]
theorem shB_len {p : Ply} (h : shB p = true) : p.hts.length ≤ 1000000 ∧ p.figs.length ≤ 1000000 ∧ p.scs.length ≤ 1000000 ∧ ∀ x ∈ p.scs, x.moved.length ≤ 1000000 ∧ x.rest.length ≤ 1000000 ∧ x.taken.length ≤ 1000000 := by
  unfold shB at h
  simp only [Bool.and_eq_true, decide_eq_true_eq] at h
  refine ⟨by omega, by omega, by omega, fun x hx => ?_⟩
  obtain ⟨i, hi, rfl⟩ := List.getElem_of_mem hx
  have := h.2 i hi (by omega)
  unfold shX at this
  simp only [Bool.and_eq_true, decide_eq_true_eq] at this
  omega
theorem has_pure (l : List Int) (n : Int) (hl : l.length ≤ 1000000) : APure Tryz.prog 27 [ints l, I n] (B (decide (n ∈ l))) := by
  refine ap Tryz.func27 (fun e0 he0 => ?_)
  refine wz 2 ?_
  refine aw_loopk (ι := { k : Nat // k ≤ l.length ∧ ∀ i, (hi : i < l.length) → i < k → l[i] ≠ n }) [0, 1] (fun i => [(5, I i.1)]) (fun H i => H) (fun i => l.length - i.1) (⟨0, Nat.zero_le _, by omega⟩) ⟨jz, jz, jz, trivial⟩ rfl ?_
  rintro ⟨k, hk, hok⟩
  refine nz ?_
  refine wz 4 ?_
  refine iz (fun c_9 c_9' => ?_) (fun c_9 c_9' => ?_)
  ·have hkL : k < l.length := by omega
   refine wz 6 ?_
   refine iz (fun c_17 c_17' => ?_) (fun c_17 c_17' => ?_)
   ·have hmem : n ∈ l := by have h5 := of_decide_eq_true c_17; exact h5 ▸ List.getElem_mem hkL
    refine wz 1 ?_
    exact rz rfl (Less.eq (by rw [decide_eq_true hmem]))
   refine wz 3 ?_
   exact ⟨⟨k + 1, by omega, fun i hi h => (by by_cases e : i = k; (subst e; simpa using c_17); exact hok i hi (by omega))⟩, by simp only; omega, Sub.slots ⟨jz, jz, jz, trivial⟩⟩
  obtain rfl : k = l.length := by omega
  have hno : ¬ n ∈ l := fun h => by obtain ⟨i, hi, h6⟩ := List.getElem_of_mem h; exact hok i hi hi h6
  refine wz 1 ?_
  exact rz rfl (Less.eq (by rw [decide_eq_false hno]))
theorem rrising_pure (l : List Int) (n : Nat) (hl : l.length ≤ 1000000) (hn : n ≤ 1000000) : APure Tryz.prog 95 [ints l, I n] (B (rising l n)) := by
  refine ap Tryz.func95 (fun e0 he0 => ?_)
  refine wz 2 ?_
  refine aw_loopk (ι := { k : Nat // k ≤ l.length ∧ ∀ i, (hi : i < l.length) → i < k → (0 ≤ l[i] ∧ l[i] < n) ∧ (0 < i → l[i - 1] < l[i]) }) [0, 1] (fun i => [(5, I i.1)]) (fun H i => H) (fun i => l.length - i.1) (⟨0, Nat.zero_le _, by omega⟩) ⟨jz, jz, jz, trivial⟩ rfl ?_
  rintro ⟨k, hk1, hok⟩
  refine nz ?_
  refine wz 4 ?_
  refine iz (fun c_9 c_9' => ?_) (fun c_9 c_9' => ?_)
  ·have hkl : k < l.length := by omega
   have hin : inn l[k] 0 ((n : Int) - 1) = true ↔ 0 ≤ l[k] ∧ l[k] ≤ (n : Int) - 1 := by unfold inn; simp
   refine wz 0 ?_
   refine aw_draw 24 mo (by kernel_rfl) ?_
   refine dz 6 ?_
   refine dkz az (rin_pure _ _ _) ?_
   refine dz 2 ?_
   refine dsz 20 (fun g4_8 g4_8' => ?_) (fun g4_8 g4_8' => ?_)
   ·have hb0 : ¬ (0 ≤ l[k] ∧ l[k] ≤ (n : Int) - 1) := fun q => by rw [hin.2 q] at g4_8; simp at g4_8
    have hno : rising l n = false := rising_no hkl (fun q => hb0 (by omega))
    refine dz 15 ?_
    refine wz 2 ?_
    exact rz rfl (Less.eq (by rw [hno]))
   have hb1 : 0 ≤ l[k] ∧ l[k] ≤ (n : Int) - 1 := hin.1 (by simpa using g4_8)
   refine dz 3 ?_
   refine dsz 23 (fun g4_11 g4_11' => ?_) (fun g4_11 g4_11' => ?_)
   ·refine dz 7 ?_
    refine dr_yes rfl rfl (less_b g4_11) rfl (ev_index_map (k := k - 1) sl22.h jz jz (by omega) (by omega)) ?_
    refine dz 4 ?_
    refine wz 0 ?_
    refine iz (fun c_35 c_35' => ?_) (fun c_35 c_35' => ?_)
    ·have hno : rising l n = false := rising_no hkl (fun q => by have h5 := q.2 (by omega); have h6 := of_decide_eq_true c_35; omega)
     refine wz 1 ?_
     exact rz rfl (Less.eq (by rw [hno]))
    have hst : (0 ≤ l[k] ∧ l[k] < n) ∧ (0 < k → l[k - 1] < l[k]) := ⟨by omega, fun q => by have := of_decide_eq_false c_35; omega⟩
    refine wz 3 ?_
    exact ⟨⟨k + 1, by omega, fun i hi q => by rcases Nat.lt_or_ge i k with q2 | q2; exact hok i hi q2; (obtain rfl : i = k := by omega); exact hst⟩, by simp only; omega, Sub.slots ⟨jz, jz, jz, trivial⟩⟩
   have hst : (0 ≤ l[k] ∧ l[k] < n) ∧ (0 < k → l[k - 1] < l[k]) := ⟨by omega, fun q => by omega⟩
   refine dz 12 ?_
   refine wz 4 ?_
   exact ⟨⟨k + 1, by omega, fun i hi q => by rcases Nat.lt_or_ge i k with q2 | q2; exact hok i hi q2; (obtain rfl : i = k := by omega); exact hst⟩, by simp only; omega, Sub.slots ⟨jz, jz, jz, trivial⟩⟩
  obtain rfl : k = l.length := by omega
  have hall := rising_yes fun i hi => hok i hi hi
  refine wz 1 ?_
  exact rz rfl (Less.eq (by rw [hall]))
theorem rscene_pure (p : Ply) (x : Scn) (h1 : x.moved.length ≤ 1000000) (h2 : x.rest.length ≤ 1000000) (h3 : x.taken.length ≤ 1000000) (hh : p.hts.length ≤ 1000000) (hf : p.figs.length ≤ 1000000) : APure Tryz.prog 78 [plA p, .agg (scC x)] (B (scOK p x)) := by
  refine ap Tryz.func78 (fun e0 he0 => ?_)
  refine wz 8 ?_
  refine kz az (rrising_pure x.moved p.figs.length h1 hf) ?_
  refine wz 2 ?_
  refine sz 13 (fun g1_7 g1_7' => ?_) (fun g1_7 g1_7' => ?_)
  ·refine wz 31 ?_
   exact rz rfl (Less.eq (congrArg B (by unfold scOK; simp [*])))
  refine wz 5 ?_
  refine ky az (rrising_pure x.rest p.figs.length h2 hf) ?_
  refine wz 3 ?_
  refine sz 22 (fun g1_16 g1_16' => ?_) (fun g1_16 g1_16' => ?_)
  ·refine wz 22 ?_
   exact rz rfl (Less.eq (congrArg B (by unfold scOK; simp [*])))
  refine wz 5 ?_
  refine ky az (rrising_pure x.taken p.hts.length h3 hh) ?_
  refine wz 3 ?_
  refine sz 31 (fun g1_25 g1_25' => ?_) (fun g1_25 g1_25' => ?_)
  ·refine wz 13 ?_
   exact rz rfl (Less.eq (congrArg B (by unfold scOK; simp [*])))
  refine wz 6 ?_
  refine sz 37 (fun g1_31 g1_31' => ?_) (fun g1_31 g1_31' => ?_)
  ·have k31 : ¬ x.rest.length ≤ 4 := by omega
   refine wz 7 ?_
   exact rz rfl (Less.eq (congrArg B (by unfold scOK; simp [*])))
  have k31 : x.rest.length ≤ 4 := by omega
  refine wz 2 ?_
  refine ky az (rin_pure _ _ _) ?_
  refine wz 2 ?_
  refine iz (fun c_42 c_42' => ?_) (fun c_42 c_42' => ?_)
  ·refine wz 1 ?_
   exact rz rfl (Less.eq (congrArg B (by unfold scOK; simp [*])))
  refine wz 1 ?_
  refine aw_loopk (ι := { k : Nat // k ≤ x.rest.length ∧ ∀ i, (hi : i < x.rest.length) → i < k → (!decide (x.rest[i] ∈ x.moved)) = true }) [3] (fun i => [(5, I i.1)]) (fun H i => H) (fun i => x.rest.length - i.1) (⟨0, Nat.zero_le _, by omega⟩) ⟨jz, jz, trivial⟩ rfl ?_
  rintro ⟨k, hk, hok⟩
  refine nz ?_
  refine wz 5 ?_
  refine iz (fun c_47 c_47' => ?_) (fun c_47 c_47' => ?_)
  ·have hkL : k < x.rest.length := by omega
   refine wz 0 ?_
   refine aw_draw 8 mo (by kernel_rfl) ?_
   refine dz 7 ?_
   refine dkz az (has_pure _ _ h1) ?_
   refine dr_end ?_
   refine wz 0 ?_
   refine iz (fun c_57 c_57' => ?_) (fun c_57 c_57' => ?_)
   ·have hbad : (x.rest.all fun n => !decide (n ∈ x.moved)) = false := all_bad hkL (by rw [decide_eq_true (of_decide_eq_true c_57)]; rfl)
    refine wz 1 ?_
    exact rz rfl (Less.eq (congrArg B (by unfold scOK; rw [all_sym, hbad]; simp)))
   refine wz 3 ?_
   exact ⟨⟨k + 1, by omega, fun i hi h => (by by_cases e : i = k; (subst e; rw [decide_eq_false (of_decide_eq_false c_57)]; rfl); exact hok i hi (by omega))⟩, by simp only; omega, Sub.slots ⟨jz, jz, trivial⟩⟩
  obtain rfl : k = x.rest.length := by omega
  have hall : (x.rest.all fun n => !decide (n ∈ x.moved)) = true := all_of fun j hj => hok j hj hj
  refine wz 1 ?_
  exact rz rfl (Less.eq (congrArg B (by unfold scOK; rw [all_sym, hall]; simp_all)))
theorem rplay_pure (p : Ply) (hh : p.hts.length ≤ 1000000) (hf : p.figs.length ≤ 1000000) (hs : p.scs.length ≤ 1000000) (hx : ∀ x ∈ p.scs, x.moved.length ≤ 1000000 ∧ x.rest.length ≤ 1000000 ∧ x.taken.length ≤ 1000000) : APure Tryz.prog 22 [plA p] (B (plOK p)) := by
  refine ap Tryz.func22 (fun e0 he0 => ?_)
  refine wz 5 ?_
  refine kz az (rin_pure _ _ _) ?_
  refine wz 2 ?_
  refine sz 12 (fun g1_5 g1_5' => ?_) (fun g1_5 g1_5' => ?_)
  ·refine wz 24 ?_
   exact rz rfl (Less.eq (by unfold plOK; simp_all))
  refine wz 3 ?_
  refine ky az (rin_pure _ _ _) ?_
  refine wz 3 ?_
  refine sz 19 (fun g1_12 g1_12' => ?_) (fun g1_12 g1_12' => ?_)
  ·refine wz 17 ?_
   exact rz rfl (Less.eq (by unfold plOK; simp_all))
  refine wz 3 ?_
  refine ky az (rin_pure _ _ _) ?_
  refine wz 3 ?_
  refine sz 26 (fun g1_19 g1_19' => ?_) (fun g1_19 g1_19' => ?_)
  ·refine wz 10 ?_
   exact rz rfl (Less.eq (by unfold plOK; simp_all))
  refine wz 5 ?_
  refine ky az (rin_pure _ _ _) ?_
  refine wz 2 ?_
  refine iz (fun c_34 c_34' => ?_) (fun c_34 c_34' => ?_)
  ·refine wz 1 ?_
   exact rz rfl (Less.eq (by unfold plOK; simp_all))
  refine wz 1 ?_
  refine aw_loopk (ι := { k : Nat // k ≤ p.hts.length ∧ ∀ i, (hi : i < p.hts.length) → i < k → inn p.hts[i] 1 9 = true }) [1] (fun i => [(3, I i.1)]) (fun H i => H) (fun i => p.hts.length - i.1) (⟨0, Nat.zero_le _, by omega⟩) ⟨jz, jz, trivial⟩ rfl ?_
  rintro ⟨k, hk, hok⟩
  refine nz ?_
  refine wz 5 ?_
  refine iz (fun c_39 c_39' => ?_) (fun c_39 c_39' => ?_)
  ·have hkl : k < p.hts.length := by omega
   refine wz 5 ?_
   refine kz az (rin_pure _ _ _) ?_
   refine wz 1 ?_
   refine iz (fun c_48 c_48' => ?_) (fun c_48 c_48' => ?_)
   ·have hbad : (p.hts.all fun n => inn n 1 9) = false := all_bad hkl (by simpa using c_48)
    refine wz 1 ?_
    exact rz rfl (Less.eq (by unfold plOK; rw [hbad]; simp))
   refine wz 3 ?_
   exact ⟨⟨k + 1, by omega, fun i hi h => (by by_cases e : i = k; (subst e; simpa using c_48); exact hok i hi (by omega))⟩, by simp only; omega, Sub.slots ⟨jz, jz, trivial⟩⟩
  obtain rfl : k = p.hts.length := by omega
  have hall1 : (p.hts.all fun n => inn n 1 9) = true := all_of fun j hj => hok j hj hj
  refine wz 1 ?_
  refine aw_loopk (ι := { k : Nat // k ≤ p.figs.length ∧ ∀ i, (hi : i < p.figs.length) → i < k → fgOK p.figs[i] = true }) [1] (fun i => [(4, I i.1)]) (fun H i => H) (fun i => p.figs.length - i.1) (⟨0, Nat.zero_le _, by omega⟩) ⟨jz, jz, trivial⟩ rfl ?_
  rintro ⟨k, hk2, hok2⟩
  refine nz ?_
  refine wz 5 ?_
  refine iz (fun c_53 c_53' => ?_) (fun c_53 c_53' => ?_)
  ·have hfl : k < p.figs.length := by omega
   have hfe : fgOK p.figs[k] = ((!decide (p.figs[k].side < 1) && !decide (p.figs[k].side > 3)) && inn p.figs[k].rank 1 9 && inn p.figs[k].hands 1 2) := by unfold fgOK; rw [show inn p.figs[k].side 1 3 = (!(decide (p.figs[k].side < 1)) && !(decide (p.figs[k].side > 3))) by unfold inn; rw [Bool.eq_iff_iff]; simp]
   refine wz 11 ?_
   refine sz 64 (fun g12_3 g12_3' => ?_) (fun g12_3 g12_3' => ?_)
   ·have hbad : p.figs.all fgOK = false := all_bad hfl (by rw [hfe]; simp [*])
    refine wz 18 ?_
    exact rz rfl (Less.eq (by unfold plOK; rw [hbad]; simp))
   refine wz 5 ?_
   refine sz 69 (fun g12_8 g12_8' => ?_) (fun g12_8 g12_8' => ?_)
   ·have hbad : p.figs.all fgOK = false := all_bad hfl (by rw [hfe]; simp [*])
    refine wz 13 ?_
    exact rz rfl (Less.eq (by unfold plOK; rw [hbad]; simp))
   refine wz 2 ?_
   refine ky az (rin_pure _ _ _) ?_
   refine wz 3 ?_
   refine sz 75 (fun g12_14 g12_14' => ?_) (fun g12_14 g12_14' => ?_)
   ·have hbad : p.figs.all fgOK = false := all_bad hfl (by rw [hfe]; simp [*])
    refine wz 7 ?_
    exact rz rfl (Less.eq (by unfold plOK; rw [hbad]; simp))
   refine wz 2 ?_
   refine ky az (rin_pure _ _ _) ?_
   refine wz 2 ?_
   refine iz (fun c_80 c_80' => ?_) (fun c_80 c_80' => ?_)
   ·have hbad : p.figs.all fgOK = false := all_bad hfl (by rw [hfe]; simp [*])
    refine wz 1 ?_
    exact rz rfl (Less.eq (by unfold plOK; rw [hbad]; simp))
   have hfg : fgOK p.figs[k] = true := by rw [hfe]; simp [*]
   refine wz 3 ?_
   exact ⟨⟨k + 1, by omega, fun i hi h => (by by_cases e : i = k; (subst e; exact hfg); exact hok2 i hi (by omega))⟩, by simp only; omega, sb 1 ⟨jz, jz, trivial⟩⟩
  obtain rfl : k = p.figs.length := by omega
  have hall2 : p.figs.all fgOK = true := all_of fun j hj => hok2 j hj hj
  refine wz 1 ?_
  refine aw_loopk (ι := { k : Nat // k ≤ p.scs.length ∧ ∀ i, (hi : i < p.scs.length) → i < k → scOK p p.scs[i] = true }) [1] (fun i => [(6, I i.1)]) (fun H i => H) (fun i => p.scs.length - i.1) (⟨0, Nat.zero_le _, by omega⟩) ⟨jz, jz, trivial⟩ rfl ?_
  rintro ⟨k, hk3, hok3⟩
  refine nz ?_
  refine wz 5 ?_
  refine iz (fun c_85 c_85' => ?_) (fun c_85 c_85' => ?_)
  ·have hsl : k < p.scs.length := by omega
   have hxk := hx _ (List.getElem_mem hsl)
   refine wz 0 ?_
   refine aw_draw 8 mo (by kernel_rfl) ?_
   refine dz 6 ?_
   refine dkz az (rscene_pure p _ hxk.1 hxk.2.1 hxk.2.2 hh hf) ?_
   refine dz 1 ?_
   refine wz 0 ?_
   refine iz (fun c_95 c_95' => ?_) (fun c_95 c_95' => ?_)
   ·have hbad : p.scs.all (scOK p) = false := all_bad hsl (by simpa using c_95)
    refine wz 1 ?_
    exact rz rfl (Less.eq (by unfold plOK; rw [hbad]; simp))
   refine wz 3 ?_
   exact ⟨⟨k + 1, by omega, fun i hi h => (by by_cases e : i = k; (subst e; simpa using c_95); exact hok3 i hi (by omega))⟩, by simp only; omega, Sub.slots ⟨jz, jz, trivial⟩⟩
  obtain rfl : k = p.scs.length := by omega
  have hall3 : p.scs.all (scOK p) = true := all_of fun j hj => hok3 j hj hj
  refine wz 1 ?_
  exact rz rfl (Less.eq (by unfold plOK; rw [hall1, hall2, hall3]; simp_all))
theorem short_pure (p : Ply) : APure Tryz.prog 19 [plA p] (B (shB p)) := by
  refine ap Tryz.func19 (fun e0 he0 => ?_)
  refine wz 3 ?_
  refine aw_loopk (ι := { k : Nat // k ≤ p.scs.length ∧ k ≤ 8 ∧ ∀ i, (hi : i < p.scs.length) → i < k → shX p.scs[i] = true }) [1] (fun i => [(3, I i.1)]) (fun H i => H) (fun i => p.scs.length - i.1) (⟨0, Nat.zero_le _, by omega, by omega⟩) ⟨jz, jz, trivial⟩ rfl ?_
  rintro ⟨k, hk, hk8, hok⟩
  refine nz ?_
  refine wz 6 ?_
  refine sz 10 (fun g2_5 g2_5' => ?_) (fun g2_5 g2_5' => ?_)
  ·have hkl : k < p.scs.length := by omega
   refine wz 3 ?_
   refine iz (fun c_13 c_13' => ?_) (fun c_13 c_13' => ?_)
   ·have hk8b : k < 8 := by have := of_decide_eq_true c_13; omega
    refine wz 12 ?_
    refine sz 25 (fun g5_4 g5_4' => ?_) (fun g5_4 g5_4' => ?_)
    ·have hbad := shB_row hkl hk8b (by unfold shX; simp; omega)
     refine wz 13 ?_
     exact rz rfl (Less.eq (by rw [hbad]))
    refine wz 6 ?_
    refine sz 31 (fun g5_10 g5_10' => ?_) (fun g5_10 g5_10' => ?_)
    ·have hbad := shB_row hkl hk8b (by unfold shX; simp; omega)
     refine wz 7 ?_
     exact rz rfl (Less.eq (by rw [hbad]))
    refine wz 5 ?_
    refine iz (fun c_36 c_36' => ?_) (fun c_36 c_36' => ?_)
    ·have h6 := of_decide_eq_true c_36
     have hbad := shB_row hkl hk8b (by unfold shX; simp; omega)
     refine wz 1 ?_
     exact rz rfl (Less.eq (by rw [hbad]))
    have h6 := of_decide_eq_false c_36
    have hsx : shX p.scs[k] = true := by unfold shX; simp; omega
    refine wz 3 ?_
    exact ⟨⟨k + 1, by omega, by omega, fun i hi h => (by by_cases e : i = k; (subst e; exact hsx); exact hok i hi (by omega))⟩, by simp only; omega, sb 1 ⟨jz, jz, trivial⟩⟩
   refine wz 5 ?_
   refine sz 41 (fun g7_4 g7_4' => ?_) (fun g7_4 g7_4' => ?_)
   ·refine wz 6 ?_
    refine sz 47 (fun g7_10 g7_10' => ?_) (fun g7_10 g7_10' => ?_)
    ·refine wz 6 ?_
     exact rz rfl (Less.eq (congrArg B (by have h9 := of_decide_eq_false c_13; rw [shB_fin (fun i hi h8 => hok i hi (by omega)), Bool.eq_iff_iff]; simp; omega)))
    refine wz 6 ?_
    exact rz rfl (Less.eq (congrArg B (by have h9 := of_decide_eq_false c_13; rw [shB_fin (fun i hi h8 => hok i hi (by omega)), Bool.eq_iff_iff]; simp; omega)))
   refine wz 12 ?_
   exact rz rfl (Less.eq (congrArg B (by have h9 := of_decide_eq_false c_13; rw [shB_fin (fun i hi h8 => hok i hi (by omega)), Bool.eq_iff_iff]; simp; omega)))
  obtain rfl : k = p.scs.length := by omega
  refine wz 9 ?_
  refine sz 41 (fun g7_4 g7_4' => ?_) (fun g7_4 g7_4' => ?_)
  ·refine wz 6 ?_
   refine sz 47 (fun g7_10 g7_10' => ?_) (fun g7_10 g7_10' => ?_)
   ·refine wz 6 ?_
    exact rz rfl (Less.eq (congrArg B (by rw [shB_fin (fun i hi _ => hok i hi hi), Bool.eq_iff_iff]; simp; omega)))
   refine wz 6 ?_
   exact rz rfl (Less.eq (congrArg B (by rw [shB_fin (fun i hi _ => hok i hi hi), Bool.eq_iff_iff]; simp; omega)))
  refine wz 12 ?_
  exact rz rfl (Less.eq (congrArg B (by rw [shB_fin (fun i hi _ => hok i hi hi), Bool.eq_iff_iff]; simp; omega)))
end Go.Proofs.YtfmpabgblbbcdaaGreatDoor
namespace Go.Proofs.YtfmpabgblbbcdaaGreatDoor
open Go Go.Ab Ni St
open Hd hiding sz
instance en20 : EnT Tryz.prog 20 := ⟨Ent.of Tryz.func20 (by kernel_rfl) rfl⟩
section
variable [Tabs]
section seq
variable {c : Ctx} {ops : Array Oper} {Q : AExit → St → Prop} {rest : List Oper} {s : St} {i : Nat}
variable {d : Option Tmp} {t : TypeId} {p : String} {af : Array Edge}
end seq
section ev
variable {P : Program} {r : Option Nat} {H : List AObj} {ρ : Operand → AV}
variable {d : Option Tmp} {t : TypeId} {p : String} {af : Array Edge} {g : Option (Nat × Bool)}
end ev
end
theorem short_t {p : Ply} (h : shB p = true) : APure Tryz.prog 19 [plA p] (B true) := by have q := short_pure p; rw [h] at q; exact q
theorem short_f {p : Ply} (h : shB p = false) : APure Tryz.prog 19 [plA p] (B false) := by have q := short_pure p; rw [h] at q; exact q
theorem pl_t {p : Ply} (hs : shB p = true) (h : plOK p = true) : APure Tryz.prog 22 [plA p] (B true) := by have q := rplay_pure p (shB_len hs).1 (shB_len hs).2.1 (shB_len hs).2.2.1 (shB_len hs).2.2.2; rw [h] at q; exact q
theorem pl_f {p : Ply} (hs : shB p = true) (h : plOK p = false) : APure Tryz.prog 22 [plA p] (B false) := by have q := rplay_pure p (shB_len hs).1 (shB_len hs).2.1 (shB_len hs).2.2.1 (shB_len hs).2.2.2; rw [h] at q; exact q
end Go.Proofs.YtfmpabgblbbcdaaGreatDoor
namespace Go.Proofs.YtfmpabgblbbcdaaGreatDoor
open Go Go.Ab Ni St
open Hd hiding sz
instance en23 : EnT Tryz.prog 23 := ⟨Ent.of Tryz.func23 (by kernel_rfl) rfl⟩
instance en46 : EnT Tryz.prog 46 := ⟨Ent.of Tryz.func46 (by kernel_rfl) rfl⟩
instance en68 : EnT Tryz.prog 68 := ⟨Ent.of Tryz.func68 (by kernel_rfl) rfl⟩
instance en69 : EnT Tryz.prog 69 := ⟨Ent.of Tryz.func69 (by kernel_rfl) rfl⟩
instance en70 : EnT Tryz.prog 70 := ⟨Ent.of Tryz.func70 (by kernel_rfl) rfl⟩
instance en79 : EnT Tryz.prog 79 := ⟨Ent.of Tryz.func79 (by kernel_rfl) rfl⟩
instance en80 : EnT Tryz.prog 80 := ⟨Ent.of Tryz.func80 (by kernel_rfl) rfl⟩
theorem handsK_bd {p : Ply} (B : PlB p) {x : Scn} (X : ScB p x) : ∀ (k : Nat), k ≤ x.moved.length → 0 ≤ handsK p x k ∧ handsK p x k ≤ 1 + 2 * k
  | 0, _ => by have := X.kn; rw [handsK_0]; omega
  | k + 1, h => by
    have ih := handsK_bd B X k (by omega)
    have hm := mv_at X (show k < x.moved.length by omega)
    have := (fg_B B hm.1 hm.2).2.2
    rw [handsK_succ (show k < x.moved.length by omega)]; omega
def badI (p : Ply) (x : Scn) (l : List Int) (i : Nat) : Prop := l.getD i 0 ∈ l.take i ∨ l.getD i 0 ∈ x.taken ∨ ((rf p x i).side = 1 ∧ p.left ≤ l.getD i 0) ∨ ((rf p x i).side = 2 ∧ l.getD i 0 < p.left)
theorem stands_no {p : Ply} {x : Scn} {l : List Int} {i : Nat} (hi : i < l.length) (h : badI p x l i) : stands p x l = false := by
  unfold stands; rw [decide_eq_false_iff_not]; exact fun q => q i hi h
theorem stands_yes {p : Ply} {x : Scn} {l : List Int} (h : ∀ i, i < l.length → ¬ badI p x l i) : stands p x l = true := by unfold stands; exact decide_eq_true h
theorem ranks_no1 {p : Ply} {x : Scn} {l : List Int} {i : Nat} (hi : i < l.length) (h : (rf p x i).rank < ht p (l.getD i 0)) : ranks p x l = false := by
  unfold ranks; rw [decide_eq_false_iff_not]; intro q; have := (q i hi).1; omega
theorem ranks_no2 {p : Ply} {x : Scn} {l : List Int} {i k : Nat} (hi : i < l.length) (hk : k < l.length) (h : clash p x l i k = true) : ranks p x l = false := by
  unfold ranks; rw [decide_eq_false_iff_not]; intro q; have := (q i hi).2 k hk; rw [h] at this; cases this
theorem ranks_yes {p : Ply} {x : Scn} {l : List Int} (h : ∀ i, i < l.length → ht p (l.getD i 0) ≤ (rf p x i).rank ∧ ∀ k, k < l.length → clash p x l i k = false) : ranks p x l = true := by unfold ranks; exact decide_eq_true h
abbrev lst (p : Ply) (k : Nat) (now : List Int) : List (List Int) := dfs inj p.hts.length k now
def lstK (p : Ply) (k : Nat) (now : List Int) (i : Nat) : List (List Int) := (every i).flatMap fun a => if inj (now ++ [a]) = true then lst p k (now ++ [a]) else []
theorem inj_snoc (now : List Int) (a : Int) : inj (now ++ [a]) = !decide (a ∈ now) := by unfold inj; simp
theorem lstK_yes {p : Ply} {k : Nat} {now : List Int} {i : Nat} (h : ¬ (i : Int) ∈ now) : lstK p k now (i + 1) = lstK p k now i ++ lst p k (now ++ [(i : Int)]) := by
  unfold lstK; rw [show every (i + 1) = every i ++ [(i : Int)] by simp [every, List.range_succ], List.flatMap_append]; simp [inj_snoc, h]
theorem lstK_no {p : Ply} {k : Nat} {now : List Int} {i : Nat} (h : (i : Int) ∈ now) : lstK p k now (i + 1) = lstK p k now i := by
  unfold lstK; rw [show every (i + 1) = every i ++ [(i : Int)] by simp [every, List.range_succ], List.flatMap_append]; simp [inj_snoc, h]
theorem lstK_all (p : Ply) (k : Nat) (now : List Int) : lst p (k + 1) now = lstK p k now p.hts.length := rfl
theorem lst_len {p : Ply} (B : PlB p) {k : Nat} (h : k ≤ 4) (now : List Int) : (lst p k now).length ≤ 1296 := by
  have h1 := dfs_len (ok := inj) (n := p.hts.length) k now
  have h2 : p.hts.length ^ k ≤ 6 ^ k := Nat.pow_le_pow_left B.nh.2 _
  have h3 : 6 ^ k ≤ 6 ^ 4 := Nat.pow_le_pow_right (by decide) h
  unfold lst; omega
theorem flat_len {α β : Type} (f : α → List β) (b : Nat) (h : ∀ a, (f a).length ≤ b) : ∀ l : List α, (l.flatMap f).length ≤ b * l.length
  | [] => by simp
  | a :: l => by have h1 := flat_len f b h l; have h2 := h a; rw [List.flatMap_cons, List.length_append, List.length_cons, Nat.mul_succ]; omega
theorem lstK_len {p : Ply} (B : PlB p) {k : Nat} (h : k ≤ 4) (now : List Int) (i : Nat) : (lstK p k now i).length ≤ 1296 * i := by
  have h1 := flat_len (fun a => if inj (now ++ [a]) = true then lst p k (now ++ [a]) else []) 1296 (fun a => by show (if inj (now ++ [a]) = true then lst p k (now ++ [a]) else []).length ≤ 1296; split; exact lst_len B h _; simp) (every i)
  rw [show (every i).length = i by simp [every]] at h1; exact h1
theorem lst_mem {p : Ply} {k : Nat} {now l : List Int} (hn : ∀ a ∈ now, 0 ≤ a ∧ a < p.hts.length) (h : l ∈ lst p k now) : l.length = now.length + k ∧ ∀ a ∈ l, 0 ≤ a ∧ a < p.hts.length := by
  obtain ⟨h1, h2, h3, _⟩ := mem_dfs.1 h
  refine ⟨h1, fun a ha => ?_⟩
  rw [← List.take_append_drop now.length l, h2] at ha
  rcases List.mem_append.1 ha with ha | ha
  · exact hn a ha
  · exact h3 a ha
theorem arr_lst (b : Bool) (p : Ply) (x : Scn) : arr b p x = (lst p x.rest.length []).filter (suits b p x) := arr_filter b p x
theorem fil_succ {α : Type} {q : α → Bool} {l : List α} {i : Nat} (h : i < l.length) : (l.take (i + 1)).filter q = (l.take i).filter q ++ (if q l[i] = true then [l[i]] else []) := by
  rw [List.take_succ_eq_append_getElem h, List.filter_append]
  congr 1
  by_cases h1 : q l[i] = true
  · rw [if_pos h1, List.filter_cons_of_pos h1]; rfl
  · rw [if_neg h1, List.filter_cons_of_neg h1]; rfl
theorem suits_bnd {p : Ply} {x : Scn} {L : List (List Int)} (e : L = lst p x.rest.length []) {i : Nat} (h : i < L.length) : L[i].length = x.rest.length ∧ ∀ a ∈ L[i], 0 ≤ a ∧ a < p.hts.length := by
  subst e
  have := lst_mem (now := []) (fun a ha => by cases ha) (List.getElem_mem h)
  simpa using this
theorem sc_ok {p : Ply} (B : PlB p) {k : Nat} (hk : k < p.scs.length) : p.scs[k] = sc p k ∧ ScB p (sc p k) := ⟨(sc_at hk).symm, sc_B B hk⟩
def failI (p : Ply) : Int := match failsAt p with | some n => n | none => -1
theorem rhands_pure {p : Ply} (gP : PlB p) {k : Nat} (hk : k < p.scs.length) {x : Scn} (hxe : p.scs[k] = x) (gX : ScB p x) : APure Tryz.prog 68 [plA p, I k] (I (hands p x)) := by
  refine ap Tryz.func68 (fun e0 he0 => ?_)
  refine vz 2 ?_
  refine sq_nil ?_
  refine aw_seq ?_
  have hkn := gX.kn
  have hnf := gP.nf
  have hml := rising_len gX.mv
  refine wz 4 ?_
  refine sq_ev rfl (ev_less (ev_load_agg_i jz ty41.h (by simp)) (Less.eq (b := .agg (scC x)) (by rw [hxe]; rfl))) ?_
  refine wz 8 ?_
  refine aw_loopk (ι := { m : Nat // m ≤ x.moved.length }) [2, 5] (fun i => [(6, I (handsK p x i.1)), (7, I i.1)]) (fun H i => H) (fun i => x.moved.length - i.1) (⟨0, Nat.zero_le _⟩) ⟨Less.eq (by rw [handsK_0] <;> rfl), jz, jz, jz, trivial⟩ rfl ?_
  rintro ⟨m, hm⟩
  refine nz ?_
  have hbd := handsK_bd gP gX m hm
  refine wz 5 ?_
  refine iz (fun c_21 c_21' => ?_) (fun c_21 c_21' => ?_)
  ·have hml2 : m < x.moved.length := by omega
   have hmk := mv_at gX hml2
   have hfb := fg_B gP hmk.1 hmk.2
   rw [fg_at hmk.1 hmk.2] at hfb
   have eS : handsK p x m + (p.figs[(x.moved[m]).toNat]).hands = handsK p x (m + 1) := by rw [handsK_succ hml2, fg_at hmk.1 hmk.2]
   refine wz 0 ?_
   refine aw_draw 12 mo (by kernel_rfl) ?_
   refine dz 8 ?_
   refine dr_ev rfl (ev_index_map (k := (x.moved[m]).toNat) (xs := p.figs) sl23.h jz jz (by have := mv_at gX hml2; omega) (by have := mv_at gX hml2; omega)) ?_
   refine dz 3 ?_
   refine wz 4 ?_
   exact ⟨⟨m + 1, by omega⟩, by simp only; omega, Sub.slots ⟨(by exact less_int eS), jz, jz, jz, trivial⟩⟩
  obtain rfl : m = x.moved.length := by omega
  refine wz 2 ?_
  exact rz rfl (Less.eq (by rw [handsK_all]))
theorem rstands_pure {p : Ply} (gP : PlB p) {k : Nat} (hk : k < p.scs.length) {x : Scn} (hxe : p.scs[k] = x) (gX : ScB p x) {l : List Int} (hr : l.length ≤ x.rest.length) : APure Tryz.prog 80 [plA p, I k, ints l] (B (stands p x l)) := by
  refine ap Tryz.func80 (fun e0 he0 => ?_)
  refine vz 2 ?_
  refine sq_nil ?_
  refine aw_seq ?_
  have hr4 := gX.r4
  have htl := rising_len gX.tk
  have hnh := gP.nh
  refine wz 4 ?_
  refine sq_ev rfl (ev_less (ev_load_agg_i jz ty41.h (by simp)) (Less.eq (b := .agg (scC x)) (by rw [hxe]; rfl))) ?_
  refine wz 3 ?_
  refine aw_loopk (ι := { i : Nat // i ≤ l.length ∧ ∀ j, j < i → ¬ badI p x l j }) [2, 3, 7] (fun g => [(8, I g.1)]) (fun H g => H) (fun g => l.length - g.1) (⟨0, Nat.zero_le _, by omega⟩) ⟨jz, jz, jz, jz, trivial⟩ rfl ?_
  rintro ⟨i, hi, hok⟩
  refine nz ?_
  refine wz 4 ?_
  refine iz (fun c_18 c_18' => ?_) (fun c_18 c_18' => ?_)
  ·have hil : i < l.length := by omega
   have hri : i < x.rest.length := by omega
   have hfi := rs_at gX hri
   have hrf := rf_at gX hri
   have hg := getD_at (d := 0) hil
   refine wz 0 ?_
   refine aw_draw 11 mo (by kernel_rfl) ?_
   refine dz 7 ?_
   refine dr_ev rfl (ev_index_map (k := (x.rest[i]).toNat) (xs := p.figs) sl23.h jz jz (by have := hfi; omega) (by have := hfi; omega)) ?_
   refine dz 3 ?_
   refine wz 0 ?_
   refine aw_draw 43 mo (by kernel_rfl) ?_
   refine dz 2 ?_
   refine dr_ev rfl (ev_less (ev_slice (lo := 0) (hi := i) sl22.h jz rfl (less_int (by omega)) (by omega) (by simp; omega)) (Less.eq (b := ints (l.take i)) (by rw [List.drop_zero, ← List.map_take]))) ?_
   refine dz 4 ?_
   refine dkz az (has_pure _ _ (by rw [List.length_take]; omega)) ?_
   refine dz 1 ?_
   refine dsz 39 (fun g6_8 g6_8' => ?_) (fun g6_8 g6_8' => ?_)
   ·have hno := stands_no (p := p) (x := x) hil (by unfold badI; rw [hg, hrf]; exact .inl (of_decide_eq_true g6_8))
    refine dz 34 ?_
    refine wz 2 ?_
    exact rz rfl (Less.eq (by rw [hno]))
   refine dz 6 ?_
   refine dky az (has_pure _ _ (by omega)) ?_
   refine dz 2 ?_
   refine dsz 48 (fun g6_17 g6_17' => ?_) (fun g6_17 g6_17' => ?_)
   ·have hno := stands_no (p := p) (x := x) hil (by unfold badI; rw [hg, hrf]; exact .inr (.inl (of_decide_eq_true g6_17)))
    refine dz 25 ?_
    refine wz 2 ?_
    exact rz rfl (Less.eq (by rw [hno]))
   refine dz 3 ?_
   refine dsz 51 (fun g6_20 g6_20' => ?_) (fun g6_20 g6_20' => ?_)
   ·refine dz 10 ?_
    refine dsz 61 (fun g6_30 g6_30' => ?_) (fun g6_30 g6_30' => ?_)
    ·have hno := stands_no (p := p) (x := x) hil (by unfold badI; rw [hg, hrf]; exact .inr (.inr (.inl ⟨of_decide_eq_true g6_20, of_decide_eq_true g6_30⟩)))
     refine dz 12 ?_
     refine wz 2 ?_
     exact rz rfl (Less.eq (by rw [hno]))
    refine dz 3 ?_
    refine dsz 64 (fun g6_33 g6_33' => ?_) (fun g6_33 g6_33' => ?_)
    ·refine dz 9 ?_
     refine wz 0 ?_
     refine iz (fun c_73 c_73' => ?_) (fun c_73 c_73' => ?_)
     ·have hno := stands_no (p := p) (x := x) hil (by unfold badI; rw [hg, hrf]; exact .inr (.inr (.inr ⟨of_decide_eq_true g6_33, of_decide_eq_true c_73⟩)))
      refine wz 1 ?_
      exact rz rfl (Less.eq (by rw [hno]))
     have hnb : ¬ badI p x l i := by unfold badI; rw [hg, hrf]; simp_all
     refine wz 3 ?_
     exact ⟨⟨i + 1, by omega, fun j hj => (by rcases Nat.lt_or_ge j i with q | q; exact hok j q; (obtain rfl : j = i := by omega); exact hnb)⟩, by simp only; omega, Sub.slots ⟨jz, jz, jz, jz, trivial⟩⟩
    have hnb : ¬ badI p x l i := by unfold badI; rw [hg, hrf]; simp_all
    refine dz 9 ?_
    refine wz 4 ?_
    exact ⟨⟨i + 1, by omega, fun j hj => (by rcases Nat.lt_or_ge j i with q | q; exact hok j q; (obtain rfl : j = i := by omega); exact hnb)⟩, by simp only; omega, Sub.slots ⟨jz, jz, jz, jz, trivial⟩⟩
   refine dz 13 ?_
   refine dsz 64 (fun g6_33 g6_33' => ?_) (fun g6_33 g6_33' => ?_)
   ·refine dz 9 ?_
    refine wz 0 ?_
    refine iz (fun c_73 c_73' => ?_) (fun c_73 c_73' => ?_)
    ·have hno := stands_no (p := p) (x := x) hil (by unfold badI; rw [hg, hrf]; exact .inr (.inr (.inr ⟨of_decide_eq_true g6_33, of_decide_eq_true c_73⟩)))
     refine wz 1 ?_
     exact rz rfl (Less.eq (by rw [hno]))
    have hnb : ¬ badI p x l i := by unfold badI; rw [hg, hrf]; simp_all
    refine wz 3 ?_
    exact ⟨⟨i + 1, by omega, fun j hj => (by rcases Nat.lt_or_ge j i with q | q; exact hok j q; (obtain rfl : j = i := by omega); exact hnb)⟩, by simp only; omega, Sub.slots ⟨jz, jz, jz, jz, trivial⟩⟩
   have hnb : ¬ badI p x l i := by unfold badI; rw [hg, hrf]; simp_all
   refine dz 9 ?_
   refine wz 4 ?_
   exact ⟨⟨i + 1, by omega, fun j hj => (by rcases Nat.lt_or_ge j i with q | q; exact hok j q; (obtain rfl : j = i := by omega); exact hnb)⟩, by simp only; omega, Sub.slots ⟨jz, jz, jz, jz, trivial⟩⟩
  obtain rfl : i = l.length := by omega
  have hall := stands_yes (fun j hj => hok j hj)
  refine wz 1 ?_
  exact rz rfl (Less.eq (by rw [hall]))
theorem rrests_pure {p : Ply} (gP : PlB p) {k : Nat} (hk : k < p.scs.length) {x : Scn} (hxe : p.scs[k] = x) (gX : ScB p x) {l : List Int} (hl : l.length = x.rest.length) (hm : ∀ a ∈ l, 0 ≤ a ∧ a < p.hts.length) : APure Tryz.prog 70 [plA p, I k, ints l] (B (suits true p x l)) := by
  refine ap Tryz.func70 (fun e0 he0 => ?_)
  refine vz 2 ?_
  refine sq_nil ?_
  refine aw_seq ?_
  have hr4 := gX.r4
  have hnh := gP.nh
  have hnf := gP.nf
  have hss := suits_ranks gP gX hl
  refine wz 4 ?_
  refine sq_ev rfl (ev_less (ev_load_agg_i jz ty41.h (by simp)) (Less.eq (b := .agg (scC x)) (by rw [hxe]; rfl))) ?_
  refine wz 3 ?_
  refine aw_loopk (ι := { i : Nat // i ≤ l.length ∧ ∀ j, j < i → ht p (l.getD j 0) ≤ (rf p x j).rank ∧ ∀ u, u < l.length → clash p x l j u = false }) [1, 2, 3, 7] (fun g => [(8, I g.1)]) (fun H g => H) (fun g => l.length - g.1) (⟨0, Nat.zero_le _, by omega⟩) ⟨jz, jz, jz, jz, jz, trivial⟩ rfl ?_
  rintro ⟨i, hi, hok⟩
  refine nz ?_
  refine wz 4 ?_
  refine iz (fun c_19 c_19' => ?_) (fun c_19 c_19' => ?_)
  ·have hil : i < l.length := by omega
   have hri : i < x.rest.length := by omega
   have hfi := rs_at gX hri
   have hrf := rf_at gX hri
   have hg := getD_at (d := 0) hil
   have hmi := hm _ (List.getElem_mem hil)
   refine wz 0 ?_
   refine aw_draw 10 mo (by kernel_rfl) ?_
   refine dz 7 ?_
   refine dr_ev rfl (ev_index_map (k := (x.rest[i]).toNat) (xs := p.figs) sl23.h jz jz (by have := hfi; omega) (by have := hfi; omega)) ?_
   refine dz 1 ?_
   refine dr_alloc rfl z82.h ?_
   refine dr_end ?_
   refine wz 1 ?_
   refine aw_draw 11 mo (by kernel_rfl) ?_
   refine dz 6 ?_
   refine dr_ev rfl (ev_index_map (k := (l[i]).toNat) (xs := p.hts) sl22.h jz jz (by have := hmi; omega) (by have := hmi; omega)) ?_
   refine dz 4 ?_
   refine wz 0 ?_
   refine iz (fun c_41 c_41' => ?_) (fun c_41 c_41' => ?_)
   ·have hno : suits true p x l = false := by rw [hss, ranks_no1 hil (by rw [hg, hrf, ht_at hmi.1 hmi.2]; omega)]; rfl
    refine wz 1 ?_
    exact rz rfl (Less.eq (by rw [hno]))
   have hle : ht p (l.getD i 0) ≤ (rf p x i).rank := by rw [hg, hrf, ht_at hmi.1 hmi.2]; omega
   refine wz 1 ?_
   refine aw_loopk (ι := { u : Nat // u ≤ l.length ∧ ∀ v, v < u → clash p x l i v = false }) [1, 2, 3, 7, 8, 9] (fun y => [(10, I y.1)]) (fun H y => H) (fun y => l.length - y.1) (⟨0, Nat.zero_le _, by omega⟩) ⟨jz, jz, jz, jz, jz, jz, jz, trivial⟩ rfl ?_
   rintro ⟨u, hu, hok2⟩
   refine nz ?_
   refine wz 4 ?_
   refine iz (fun c_45 c_45' => ?_) (fun c_45 c_45' => ?_)
   ·have huL : u < l.length := by omega
    have huR : u < x.rest.length := by omega
    have hfu := rs_at gX huR
    have hmu := hm _ (List.getElem_mem huL)
    have hcl : clash p x l i u = ((lf p l[i] == lf p l[u]) && decide ((p.figs[(x.rest[i]).toNat]).rank < (p.figs[(x.rest[u]).toNat]).rank ∧ p.hts[(l[u]).toNat] < p.hts[(l[i]).toNat])) := by unfold clash; rw [getD_at hil, getD_at huL, rf_at gX hri, rf_at gX huR, ht_at hmi.1 hmi.2, ht_at hmu.1 hmu.2]
    refine wz 0 ?_
    refine aw_draw 49 mo (by kernel_rfl) ?_
    refine dz 16 ?_
    refine dsz 63 (fun g11_15 g11_15' => ?_) (fun g11_15 g11_15' => ?_)
    ·refine dz 9 ?_
     refine dr_yes rfl rfl (less_b g11_15) rfl (ev_index_map (k := (x.rest[u]).toNat) (xs := p.figs) sl23.h jz jz (by have := hfu; omega) (by have := hfu; omega)) ?_
     refine dz 5 ?_
     refine dsz 78 (fun g11_30 g11_30' => ?_) (fun g11_30 g11_30' => ?_)
     ·refine dz 6 ?_
      refine dr_yes rfl rfl (less_b g11_30) rfl (ev_index_map (k := (l[i]).toNat) (xs := p.hts) sl22.h jz jz (by have := hmi; omega) (by have := hmi; omega)) ?_
      refine dz 7 ?_
      refine dr_yes rfl rfl (less_b g11_30) rfl (ev_index_map (k := (l[u]).toNat) (xs := p.hts) sl22.h jz jz (by have := hmu; omega) (by have := hmu; omega)) ?_
      refine dz 3 ?_
      refine wz 0 ?_
      refine iz (fun c_96 c_96' => ?_) (fun c_96 c_96' => ?_)
      ·have hno : suits true p x l = false := by rw [hss, ranks_no2 hil huL (by rw [hcl]; unfold lf; simp_all)]; rfl
       refine wz 1 ?_
       exact rz rfl (Less.eq (by rw [hno]))
      have hnc : clash p x l i u = false := by rw [hcl, decide_eq_false (p := _ ∧ _) (fun q => by have := of_decide_eq_false c_96; omega), Bool.and_false]
      refine wz 3 ?_
      exact ⟨⟨u + 1, by omega, fun v hv => (by rcases Nat.lt_or_ge v u with q | q; exact hok2 v q; (obtain rfl : v = u := by omega); exact hnc)⟩, by simp only; omega, Sub.slots ⟨jz, jz, jz, jz, jz, jz, jz, trivial⟩⟩
     have hnc : clash p x l i u = false := by rw [hcl, decide_eq_false (p := _ ∧ _) (fun q => by have := of_decide_eq_false g11_30; omega), Bool.and_false]
     refine dz 18 ?_
     refine wz 4 ?_
     exact ⟨⟨u + 1, by omega, fun v hv => (by rcases Nat.lt_or_ge v u with q | q; exact hok2 v q; (obtain rfl : v = u := by omega); exact hnc)⟩, by simp only; omega, Sub.slots ⟨jz, jz, jz, jz, jz, jz, jz, trivial⟩⟩
    have hnc : clash p x l i u = false := by rw [hcl]; unfold lf; simp_all
    refine dz 33 ?_
    refine wz 4 ?_
    exact ⟨⟨u + 1, by omega, fun v hv => (by rcases Nat.lt_or_ge v u with q | q; exact hok2 v q; (obtain rfl : v = u := by omega); exact hnc)⟩, by simp only; omega, Sub.slots ⟨jz, jz, jz, jz, jz, jz, jz, trivial⟩⟩
   obtain rfl : u = l.length := by omega
   refine wz 3 ?_
   exact ⟨⟨i + 1, by omega, fun j hj => (by rcases Nat.lt_or_ge j i with q | q; exact hok j q; (obtain rfl : j = i := by omega); exact ⟨hle, fun u hu => hok2 u hu⟩)⟩, by simp only; omega, sb 2 ⟨jz, jz, jz, jz, jz, trivial⟩⟩
  obtain rfl : i = l.length := by omega
  have hall := ranks_yes (fun j hj => hok j hj)
  refine wz 3 ?_
  refine kz az (rstands_pure gP hk hxe gX (by omega)) ?_
  refine wz 1 ?_
  exact rz rfl (Less.eq (by rw [hss, hall, Bool.true_and]))
theorem rlists_step {p : Ply} (gP : PlB p) (mm : Nat) (ih : ∀ k, mm = k + 1 → ∀ now : List Int, now.length + k ≤ 4 → APure Tryz.prog 79 [plA p, ints now, I (now.length + k : Nat)] (hds (lst p k now))) (now : List Int) (hl : now.length + mm ≤ 4) : APure Tryz.prog 79 [plA p, ints now, I (now.length + mm : Nat)] (hds (lst p mm now)) := by
  refine ap Tryz.func79 (fun e0 he0 => ?_)
  refine vz 2 ?_
  refine sq_nil ?_
  refine aw_seq ?_
  refine aw_seq ?_
  have hnh := gP.nh
  refine wz 4 ?_
  refine iz (fun c_12 c_12' => ?_) (fun c_12 c_12' => ?_)
  ·obtain rfl : mm = 0 := by omega
   refine wz 1 ?_
   refine sq_ev rfl (ev_less (ev_buildSlice (es := [[_]]) sf61.h rfl rfl rfl rfl) (less_slx _ _)) ?_
   refine wz 1 ?_
   exact retQ_pure (v := .sl _ _) rfl rfl (Less.eq rfl)
  obtain ⟨k, rfl⟩ : ∃ k, mm = k + 1 := ⟨mm - 1, by omega⟩
  refine vz 2 ?_
  refine sq_nil ?_
  refine aw_block ?_
  refine aw_sub (sub_token 7 1 jz) ?_
  refine aw_loopk (ι := { k : Nat // k ≤ p.hts.length }) [1, 2, 3] (fun i => [(8, I i.1), (7, .own 1 1 ((lstK p k now i.1).map fun h => [ints h]))]) (fun H i => H.set 1 (.tok ((lstK p k now i.1).map fun h => [ints h]).length)) (fun i => p.hts.length - i.1) (⟨0, Nat.zero_le _⟩) ⟨jz, jz, jz, jz, jz, trivial⟩ rfl ?_
  rintro ⟨i, hi⟩
  refine nz ?_
  have hll := lstK_len gP (k := k) (by omega) now i
  have hl2 := lst_len gP (k := k) (by omega) (now ++ [(i : Int)])
  refine wz 5 ?_
  refine iz (fun c_19 c_19' => ?_) (fun c_19 c_19' => ?_)
  ·have hin : i < p.hts.length := by omega
   refine wz 2 ?_
   refine kz az (has_pure _ _ (by omega)) ?_
   refine wz 1 ?_
   refine iz (fun c_25 c_25' => ?_) (fun c_25 c_25' => ?_)
   ·have hnm : ¬ (i : Int) ∈ now := by simpa using c_25
    have eS : (lstK p k now (i + 1)).map (fun h => [ints h]) = (lstK p k now i).map (fun h => [ints h]) ++ (lst p k (now ++ [(i : Int)])).map (fun h => [ints h]) := by rw [lstK_yes hnm, List.map_append]
    refine aw_drawc [] [3, 6, 9] _ mo (by kernel_rfl) (HSub.mask [1] 0 _) ?_
    first | refine dc_ev rfl (ev_mv (v := .sl _ _) jz) ?_ | refine dc_ev rfl (ev_mv (v := .own _ _ _) jz) ?_ | refine dc_ev rfl (ev_mv (v := .raw _) jz) ?_ | refine dc_ev rfl (ev_mv (v := .slx _ _) jz) ?_ | refine dc_ev rfl (ev_mv (v := .msl _ _ _ _) jz) ?_
    first | refine dc_ev rfl (ev_load_agg jz rfl ty26.h rfl) ?_ | refine dc_ev rfl (ev_load_agg_i jz ty26.h (by exact Nat.le_of_ble_eq_true rfl)) ?_
    first | refine dc_ev rfl (ev_mv (v := .sl _ _) jz) ?_ | refine dc_ev rfl (ev_mv (v := .own _ _ _) jz) ?_ | refine dc_ev rfl (ev_mv (v := .raw _) jz) ?_ | refine dc_ev rfl (ev_mv (v := .slx _ _) jz) ?_ | refine dc_ev rfl (ev_mv (v := .msl _ _ _ _) jz) ?_
    refine dc_eff rfl rfl (eff_append_new rfl sf22.h Tryz.underlying22 (less_nilx _) jz (by simp; omega) (by simp; omega)) (by apply HL.sub; repeat' (first | exact HL.nil _ | apply HL.same | apply HL.tok)) ?_
    refine dc_ev rfl (ev_mv (v := .raw _) jz) ?_
    refine dc_ev rfl (ev_buildSlice (es := [[_]]) sf22.h rfl rfl rfl rfl) ?_
    refine dc_eff rfl rfl (eff_append rfl sf22.h Tryz.underlying22 rfl rfl (less_slx _ _) (by simp; omega) (by simp; omega)) (by apply HL.sub; repeat' (first | exact HL.nil _ | apply HL.same | apply HL.tok)) ?_
    refine dc_ev rfl (ev_mv (v := .raw _) jz) ?_
    refine dc_ev rfl (ev_call en79.h jz (ih k rfl (now ++ [(i : Int)]) (by simp; omega)) ⟨jz, Less.trans (less_own _ _ _) (Less.eq (by simp)), (by exact less_int (by simp; omega)), trivial⟩) ?_
    refine dc_eff rfl rfl (eff_append rfl sf61.h Tryz.underlying61 rfl rfl jz (by simp; omega) (by simp; omega)) (by apply HL.sub; repeat' (first | exact HL.nil _ | apply HL.same | apply HL.tok)) ?_
    first | refine dc_ev rfl (ev_as (v := .sl _ _) jz) ?_ | refine dc_ev rfl (ev_as (v := .own _ _ _) jz) ?_ | refine dc_ev rfl (ev_as (v := .raw _) jz) ?_ | refine dc_ev rfl (ev_as (v := .slx _ _) jz) ?_ | refine dc_ev rfl (ev_as (v := .msl _ _ _ _) jz) ?_
    refine dc_nil ?_
    refine wz 3 ?_
    exact ⟨⟨i + 1, by omega⟩, by simp only; omega, sb 2 ⟨jz, Less.eq (by rw [eS] <;> rfl), jz, jz, jz, trivial⟩ (hH := (congrArg (fun n => [_, AObj.tok n]) (congrArg List.length eS.symm)))⟩
   have hnm : (i : Int) ∈ now := by simpa using c_25
   have eS : (lstK p k now (i + 1)).map (fun h => [ints h]) = (lstK p k now i).map (fun h => [ints h]) := by rw [lstK_no hnm]
   refine wz 3 ?_
   exact ⟨⟨i + 1, by omega⟩, by simp only; omega, sb 2 ⟨jz, Less.eq (by rw [eS] <;> rfl), jz, jz, jz, trivial⟩ (hH := (congrArg (fun n => [_, AObj.tok n]) (congrArg List.length eS.symm)))⟩
  obtain rfl : i = p.hts.length := by omega
  refine wz 2 ?_
  exact retQ_pure (v := .own _ _ _) rfl rfl (Less.trans (less_own _ _ _) (Less.eq (by rw [lstK_all])))
theorem rlists_pure {p : Ply} (gP : PlB p) : ∀ (mm : Nat) (now : List Int), now.length + mm ≤ 4 → APure Tryz.prog 79 [plA p, ints now, I (now.length + mm : Nat)] (hds (lst p mm now))
  | 0, now, h => rlists_step gP 0 (fun k e => by omega) now h
  | m + 1, now, h => rlists_step gP (m + 1) (fun k e now h => by
      have e2 := Nat.succ.inj e
      subst e2
      exact rlists_pure gP m now h) now h
theorem rlists0 {p : Ply} (gP : PlB p) {m : Nat} (h : m ≤ 4) : APure Tryz.prog 79 [plA p, ints [], I m] (hds (lst p m [])) := by
  have := rlists_pure gP m [] (by simpa using h)
  simpa using this
theorem rall_pure {p : Ply} (gP : PlB p) {k : Nat} (hk : k < p.scs.length) {x : Scn} (hxe : p.scs[k] = x) (gX : ScB p x) : APure Tryz.prog 46 [plA p, I k] (hds (arr true p x)) := by
  refine ap Tryz.func46 (fun e0 he0 => ?_)
  refine vz 2 ?_
  refine sq_nil ?_
  refine aw_seq ?_
  have hr4 := gX.r4
  have hlen := lst_len gP (k := x.rest.length) gX.r4 []
  refine aw_draw 10 mo (by kernel_rfl) ?_
  refine dz 4 ?_
  refine dr_ev rfl (ev_less (ev_index_map (k := k) (xs := p.scs) sl24.h jz jz rfl hk) (Less.eq (b := .iptr (scC x)) (by rw [hxe]))) ?_
  refine dz 3 ?_
  refine dr_ev rfl (ev_call en79.h jz (rlists0 gP gX.r4) ⟨jz, less_nil 1, jz, trivial⟩) ?_
  refine dz 1 ?_
  refine vz 2 ?_
  refine sq_nil ?_
  refine aw_block ?_
  refine aw_sub (sub_token 6 1 jz) ?_
  refine aw_loopk (ι := { k : Nat // k ≤ (lst p x.rest.length []).length }) [1, 2, 5] (fun i => [(7, I i.1), (6, .own 1 1 ((((lst p x.rest.length []).take i.1).filter (suits true p x)).map fun h => [ints h]))]) (fun H i => H.set 1 (.tok ((((lst p x.rest.length []).take i.1).filter (suits true p x)).map fun h => [ints h]).length)) (fun i => (lst p x.rest.length []).length - i.1) (⟨0, Nat.zero_le _⟩) ⟨jz, jz, jz, jz, jz, trivial⟩ rfl ?_
  rintro ⟨i, hi⟩
  refine nz ?_
  have hfl : (((lst p x.rest.length []).take i).filter (suits true p x)).length ≤ i := Nat.le_trans (List.length_filter_le _ _) (by rw [List.length_take]; omega)
  refine wz 4 ?_
  refine iz (fun c_20 c_20' => ?_) (fun c_20 c_20' => ?_)
  ·have hil : i < (lst p x.rest.length []).length := by omega
   refine wz 0 ?_
   refine aw_draw 7 mo (by kernel_rfl) ?_
   refine dz 4 ?_
   refine dr_ev rfl (ev_index_map (k := i) (xs := lst p x.rest.length []) sl61.h jz jz rfl hil) ?_
   refine dz 1 ?_
   refine dkz az (rrests_pure gP hk hxe gX (suits_bnd rfl hil).1 (suits_bnd rfl hil).2) ?_
   refine dr_end ?_
   refine wz 0 ?_
   refine iz (fun c_29 c_29' => ?_) (fun c_29 c_29' => ?_)
   ·have eS : (((lst p x.rest.length []).take (i + 1)).filter (suits true p x)).map (fun h => [ints h]) = (((lst p x.rest.length []).take i).filter (suits true p x)).map (fun h => [ints h]) ++ [[ints (lst p x.rest.length [])[i]]] := by rw [fil_succ hil, if_pos c_29, List.map_append]; rfl
    refine wz 3 ?_
    refine sq_ev rfl (ev_index_map (k := i) (xs := lst p x.rest.length []) sl61.h jz jz rfl hil) ?_
    refine wz 1 ?_
    refine sq_ev rfl (ev_buildSlice (es := [[_]]) sf61.h rfl rfl rfl rfl) ?_
    first | refine sq_append rfl sf61.h Tryz.underlying61 rfl rfl jz (Nat.succ_pos _) (by simp; omega) (by simp; omega) ?_ | refine sq_append rfl sf61.h Tryz.underlying61 rfl rfl (less_slx _ _) (Nat.succ_pos _) (by simp; omega) (by simp; omega) ?_
    refine wz 4 ?_
    exact ⟨⟨i + 1, by omega⟩, by simp only; omega, sb 2 ⟨jz, Less.eq (by rw [eS] <;> rfl), jz, jz, jz, trivial⟩ (hH := (congrArg (fun n => [_, AObj.tok n]) (congrArg List.length eS.symm)))⟩
   have eS : (((lst p x.rest.length []).take (i + 1)).filter (suits true p x)).map (fun h => [ints h]) = (((lst p x.rest.length []).take i).filter (suits true p x)).map (fun h => [ints h]) := by rw [fil_succ hil, if_neg (by rw [c_29]; simp), List.append_nil]
   refine wz 3 ?_
   exact ⟨⟨i + 1, by omega⟩, by simp only; omega, sb 2 ⟨jz, Less.eq (by rw [eS] <;> rfl), jz, jz, jz, trivial⟩ (hH := (congrArg (fun n => [_, AObj.tok n]) (congrArg List.length eS.symm)))⟩
  obtain rfl : i = (lst p x.rest.length []).length := by omega
  refine wz 2 ?_
  exact retQ_pure (v := .own _ _ _) rfl rfl (Less.trans (less_own _ _ _) (Less.eq (by rw [List.take_length, arr_lst])))
theorem rcan_pure {p : Ply} (gP : PlB p) {k : Nat} (hk : k < p.scs.length) {x : Scn} (hxe : p.scs[k] = x) (gX : ScB p x) : APure Tryz.prog 69 [plA p, I k] (B (St.can p x)) := by
  refine ap Tryz.func69 (fun e0 he0 => ?_)
  refine vz 2 ?_
  refine sq_nil ?_
  refine aw_seq ?_
  have hal := arr_len gP gX true
  have hie : (!(arr true p x).isEmpty) = decide (((arr true p x).length : Int) > 0) := by rw [Bool.eq_iff_iff]; cases arr true p x <;> simp
  refine wz 2 ?_
  refine kz az (rhands_pure gP hk hxe gX) ?_
  refine wz 2 ?_
  refine sz 9 (fun g1_4 g1_4' => ?_) (fun g1_4 g1_4' => ?_)
  ·refine wz 2 ?_
   refine ky az (rall_pure gP hk hxe gX) ?_
   refine wz 4 ?_
   exact rz rfl (Less.eq (congrArg B (by unfold St.can; rw [hie]; simp [*])))
  refine wz 7 ?_
  exact rz rfl (Less.eq (congrArg B (by unfold St.can; rw [hie]; simp [*])))
theorem rfails_pure {p : Ply} (gP : PlB p) : APure Tryz.prog 23 [plA p] (I (failI p)) := by
  refine ap Tryz.func23 (fun e0 he0 => ?_)
  refine aw_seq ?_
  have hns := gP.ns
  refine wz 3 ?_
  refine aw_loopk (ι := { i : Nat // i ≤ p.scs.length ∧ ∀ j, j < i → St.can p (sc p j) = true }) [1] (fun i => [(3, I i.1)]) (fun H i => H) (fun i => p.scs.length - i.1) (⟨0, Nat.zero_le _, by omega⟩) ⟨jz, jz, trivial⟩ rfl ?_
  rintro ⟨i, hi, hok⟩
  refine nz ?_
  refine wz 5 ?_
  refine iz (fun c_8 c_8' => ?_) (fun c_8 c_8' => ?_)
  ·have hil : i < p.scs.length := by omega
   refine wz 2 ?_
   refine kz az (rcan_pure gP hil (sc_ok gP hil).1 (sc_ok gP hil).2) ?_
   refine wz 1 ?_
   refine iz (fun c_14 c_14' => ?_) (fun c_14 c_14' => ?_)
   ·have hres : failI p = i := by unfold failI; rw [fails_is hil (by simpa using c_14) hok]
    refine wz 2 ?_
    exact rz rfl (Less.eq (by rw [hres]))
   refine wz 3 ?_
   exact ⟨⟨i + 1, by omega, fun j hj => (by by_cases e : j = i; (subst e; simpa using c_14); exact hok j (by omega))⟩, by simp only; omega, Sub.slots ⟨jz, jz, trivial⟩⟩
  have hres : failI p = -1 := by unfold failI; rw [fails_no (fun j hj => hok j (by omega))]
  refine wz 1 ?_
  exact rz rfl (Less.eq (by rw [hres]))
end Go.Proofs.YtfmpabgblbbcdaaGreatDoor
namespace Go.Proofs.YtfmpabgblbbcdaaGreatDoor
open Go Go.Ab Ni St
open Hd hiding sz
theorem can_iff {p : Ply} {x : Scn} : St.can p x = true ↔ hands p x ≤ 2 ∧ ∃ l, l ∈ arr true p x := by
  unfold St.can
  rw [Bool.and_eq_true, decide_eq_true_eq]
  cases h : arr true p x with
  | nil => simp
  | cons a m => simp
theorem out_sc {p : Ply} {F : List Int} {k : Nat} (hk : k < p.scs.length) : sc (outP p F) k = cutX F (sc p k) := by
  have h2 : k < (outP p F).scs.length := by show k < (p.scs.map _).length; rw [List.length_map]; exact hk
  rw [sc_at h2, sc_at hk]
  exact List.getElem_map (cutX F)
theorem plan_full (ok : List Int → Bool) : ∀ L now : List Int, ok (now ++ L) = true → plan ok L.length L now = some (now ++ L)
  | [], now, h => by
    rw [List.append_nil] at h ⊢
    show (if ok now = true then some now else none) = _
    rw [if_pos h]
  | c :: L, now, h => by
    have e : now ++ c :: L = (now ++ [c]) ++ L := by simp
    show (match plan ok L.length L (now ++ [c]) with | some l => some l | none => _) = _
    rw [plan_full ok L (now ++ [c]) (by rw [← e]; exact h), e]
theorem plays_out {p : Ply} {F : List Int} : okF p F = true ↔ ∀ k, k < p.scs.length → St.can p (cutX F (sc p k)) = true := by
  have e : okF p F = plays (outP p F) := rfl
  have hl : (outP p F).scs.length = p.scs.length := by show (p.scs.map _).length = _; rw [List.length_map]
  rw [e, plays_iff]
  constructor
  · intro h k hk; have := h k (by omega); rwa [out_sc hk] at this
  · intro h k hk; rw [out_sc (by omega)]; exact h k (by omega)
theorem cut_every {l : List Int} {n : Nat} (h : rising l n = true) : cutN (every n) l = [] := by
  unfold cutN; rw [List.filter_eq_nil_iff]
  intro a ha
  have := mem_every.2 ((rising_iff.1 h).2 a ha)
  simp [this]
theorem plays_none {p : Ply} (B : PlB p) : okF p (every p.figs.length) = true := by
  refine plays_out.2 fun k hk => can_iff.2 ?_
  have X := sc_B B hk
  have e : cutX (every p.figs.length) (sc p k) = ⟨[], [], (sc p k).knocks, (sc p k).taken⟩ := by unfold cutX; rw [cut_every X.mv, cut_every X.rs]
  rw [e]
  have := X.kn
  refine ⟨by unfold hands; simp; omega, [], mem_arr.2 ⟨rfl, fun a ha => by simp at ha, ?_⟩⟩
  unfold suits; rw [decide_eq_true_eq]; intro i hi; simp at hi
theorem leaves_some {p : Ply} (B : PlB p) : ∃ l, leaves p = some l := by
  cases h : leaves p with
  | some l => exact ⟨l, rfl⟩
  | none =>
    exfalso
    unfold leaves at h
    rw [List.findSome?_eq_none_iff] at h
    have h1 := h p.figs.length (List.mem_range.2 (by omega))
    have h2 := plan_full (okF p) (every p.figs.length) [] (by rw [List.nil_append]; exact plays_none B)
    rw [show (every p.figs.length).length = p.figs.length by simp [every]] at h2
    rw [h2] at h1; cases h1
theorem rise_sub {l : List Int} {n : Nat} (h : rising l n = true) : List.Sublist l (every n) := Hd.ms_sub (rising_iff.1 h)
theorem leaves_is {p : Ply} {l : List Int} (h : leaves p = some l) :
    rising l p.figs.length = true ∧ okF p l = true ∧ ∀ q, rising q p.figs.length = true → okF p q = true → l.length < q.length ∨ (l.length = q.length ∧ befB q l = false) := by
  unfold leaves at h
  obtain ⟨m, hm, h1, h2⟩ := findSome_inv h
  obtain ⟨q, e, hq, hl, hok, hmin⟩ := Hd.plan_some_inv (Hd.every_rising _) h1
  rw [List.nil_append] at e; subst e
  refine ⟨rising_iff.2 (Hd.sub_ms hq), hok, fun r hr hk => ?_⟩
  have hs := rise_sub hr
  rcases Nat.lt_trichotomy l.length r.length with g | g | g
  · exact .inl g
  · exact .inr ⟨g, hmin r hs (by omega) (by rw [List.nil_append]; exact hk)⟩
  · exfalso
    have := Hd.plan_none_inv (h2 r.length (by omega)) r hs rfl
    rw [List.nil_append] at this; rw [this] at hk; cases hk
end Go.Proofs.YtfmpabgblbbcdaaGreatDoor
namespace Go.Proofs.YtfmpabgblbbcdaaGreatDoor
open Go Go.Ab Ni St
open Hd hiding sz
instance en59 : EnT Tryz.prog 59 := ⟨Ent.of Tryz.func59 (by kernel_rfl) rfl⟩
instance en96 : EnT Tryz.prog 96 := ⟨Ent.of Tryz.func96 (by kernel_rfl) rfl⟩
theorem rcut_pure (F l : List Int) (hF : F.length ≤ 1000000) (hl : l.length ≤ 1000000) : APure Tryz.prog 96 [ints l, ints F] (ints (cutN F l)) := by
  refine ap Tryz.func96 (fun e0 he0 => ?_)
  refine vz 3 ?_
  refine sq_nil ?_
  refine aw_block ?_
  refine aw_sub (sub_token 5 1 jz) ?_
  refine aw_loopk (ι := { k : Nat // k ≤ l.length }) [0, 1] (fun i => [(6, I i.1), (5, .own 0 1 ((cutN F (l.take i.1)).map (fun x => [I x])))]) (fun H i => H.set 0 (.tok ((cutN F (l.take i.1)).map (fun x => [I x])).length)) (fun i => l.length - i.1) (⟨0, Nat.zero_le _⟩) ⟨jz, jz, jz, jz, trivial⟩ rfl ?_
  rintro ⟨k, hk⟩
  refine nz ?_
  have hcl : (cutN F (l.take k)).length ≤ l.length := Nat.le_trans (List.length_filter_le _ _) (by rw [List.length_take]; omega)
  refine wz 4 ?_
  refine iz (fun c_10 c_10' => ?_) (fun c_10 c_10' => ?_)
  ·have hkL : k < l.length := by omega
   refine wz 5 ?_
   refine kz az (has_pure F l[k] hF) ?_
   refine wz 1 ?_
   refine iz (fun c_19 c_19' => ?_) (fun c_19 c_19' => ?_)
   ·have eS : (cutN F (l.take (k + 1))).map (fun x => [I x]) = (cutN F (l.take k)).map (fun x => [I x]) ++ [[I l[k]]] := by unfold cutN; rw [fil_succ hkL, if_pos (by simpa using c_19), List.map_append]; rfl
    refine wz 5 ?_
    refine sq_ev rfl (ev_buildSlice (es := [[_]]) sf22.h rfl rfl rfl rfl) ?_
    first | refine sq_append rfl sf22.h Tryz.underlying22 rfl rfl jz (Nat.succ_pos _) (by simp; omega) (by simp; omega) ?_ | refine sq_append rfl sf22.h Tryz.underlying22 rfl rfl (less_slx _ _) (Nat.succ_pos _) (by simp; omega) (by simp; omega) ?_
    refine wz 4 ?_
    exact ⟨⟨k + 1, by omega⟩, by simp only; omega, sb 1 ⟨jz, Less.eq (b := .own 0 1 ((cutN F (l.take (k + 1))).map (fun x => [I x]))) (by rw [eS] <;> rfl), jz, jz, trivial⟩ (hH := (congrArg (fun n => [AObj.tok n]) (congrArg List.length eS.symm)))⟩
   have eS : (cutN F (l.take (k + 1))).map (fun x => [I x]) = (cutN F (l.take k)).map (fun x => [I x]) := by unfold cutN; rw [fil_succ hkL, if_neg (by simpa using c_19), List.append_nil]
   refine wz 3 ?_
   exact ⟨⟨k + 1, by omega⟩, by simp only; omega, sb 1 ⟨jz, Less.eq (b := .own 0 1 ((cutN F (l.take (k + 1))).map (fun x => [I x]))) (by rw [eS] <;> rfl), jz, jz, trivial⟩ (hH := (congrArg (fun n => [AObj.tok n]) (congrArg List.length eS.symm)))⟩
  obtain rfl : k = l.length := by omega
  refine wz 2 ?_
  exact retQ_pure (v := .own _ _ _) rfl rfl (Less.trans (less_own _ _ _) (Less.eq (by rw [List.take_length])))
theorem copS2_call0 {p : Ply} {o0 : AObj} {o1 : AObj} (hh : 0 < p.hts.length ∧ p.hts.length ≤ 1000000) (hf : 0 < p.figs.length ∧ p.figs.length ≤ 1000000) (hs : 0 < p.scs.length ∧ p.scs.length ≤ 1000000) : ACall Tryz.prog 59 [plA p] [o0, o1] (fun y H' => ∃ cap l1 l2, p.scs.length ≤ cap ∧ y = .ret (.agg [I p.left, ints p.hts, fgs p.figs, .msl 6 0 p.scs.length cap]) ∧ H' = [o0, o1, .cells l1, .cells l2, .dead, .dead, .cells ((p.scs.map scC).flatten ++ List.replicate ((cap - p.scs.length) * 4) .any)]) := by
  refine acall_of (rs := [.cell 2 26]) Tryz.func59 rfl rfl (Nat.le_of_ble_eq_true rfl) fun e0 he0 => ?_
  refine wz 4 ?_
  refine sq_append_msl2 rfl sf22.h Tryz.underlying22 (less_nilx _) jz (by simpa using hh.1) (by simp; omega) (by simp; omega) (fun c1 hc1 hc1b => ?_)
  simp only [List.length_map] at hc1 hc1b ⊢
  refine nz ?_
  refine wz 4 ?_
  refine sq_append_msl2 rfl sf23.h Tryz.underlying23 (less_nilx _) jz (by simpa using hf.1) (by simp; omega) (by simp; omega) (fun c2 hc2 hc2b => ?_)
  simp only [List.length_map] at hc2 hc2b ⊢
  refine nz ?_
  refine wz 4 ?_
  refine sq_append_msl2 rfl sf24.h Tryz.underlying24 (less_nilx _) jz (by simpa using hs.1) (by simp; omega) (by simp; omega) (fun c3 hc3 hc3b => ?_)
  simp only [List.length_map] at hc3 hc3b ⊢
  refine nz ?_
  refine vz 2 ?_
  refine sq_nil ?_
  refine aw_seq ?_
  refine aw_sub (sub_freeze (j := 4) (n := p.hts.length) (cap := c1) (sz := 1) (es := p.hts.map (fun x => [I x])) (rest := List.replicate ((c1 - p.hts.length) * 1) .any) (sl' := [(1, .ptr 2 0), (2, .ptr 3 0)]) rfl (by simp) (fun q hq => by obtain ⟨x, _, rfl⟩ := List.mem_map.1 hq; rfl) (fun q hq => ?_) (FzH.same _ (by decide) (FzH.same _ (by decide) (FzH.cells (by decide) (FzL.cons (Fz.same _) (FzL.cons Fz.frozen (FzL.cons (Fz.same _) (FzL.cons (Fz.same _) FzL.nil)))) (FzH.same _ (by decide) (FzH.dead _ rfl (FzH.same _ (by decide) (FzH.same _ (by decide) (FzH.nil _))))))))) ?_
  ·simp only [List.mem_cons, List.not_mem_nil, or_false] at hq; rcases hq with rfl | rfl <;> exact Fz.same _
  refine nz ?_
  refine aw_sub (sub_freeze (j := 5) (n := p.figs.length) (cap := c2) (sz := 3) (es := p.figs.map fgC) (rest := List.replicate ((c2 - p.figs.length) * 3) .any) (sl' := [(1, .ptr 2 0), (2, .ptr 3 0)]) rfl (by simp) (fun q hq => by obtain ⟨x, _, rfl⟩ := List.mem_map.1 hq; rfl) (fun q hq => ?_) (FzH.same _ (by decide) (FzH.same _ (by decide) (FzH.cells (by decide) (FzL.cons (Fz.same _) (FzL.cons (Fz.same _) (FzL.cons Fz.frozen (FzL.cons (Fz.same _) FzL.nil)))) (FzH.same _ (by decide) (FzH.same _ (by decide) (FzH.dead _ rfl (FzH.same _ (by decide) (FzH.nil _))))))))) ?_
  ·simp only [List.mem_cons, List.not_mem_nil, or_false] at hq; rcases hq with rfl | rfl <;> exact Fz.same _
  refine nz ?_
  refine wz 2 ?_
  exact ⟨rfl, _, rfl, c3, _, _, hc3, rfl, rfl⟩
theorem copS2_call {p : Ply} {o0 : AObj} {o1 : AObj} (hh : 0 < p.hts.length ∧ p.hts.length ≤ 1000000) (hf : 0 < p.figs.length ∧ p.figs.length ≤ 1000000) (hs : 0 < p.scs.length ∧ p.scs.length ≤ 1000000) : ACall Tryz.prog 59 [plA p] [o0, o1] (fun y H' => ∃ cap, p.scs.length ≤ cap ∧ y = .ret (.agg [I p.left, ints p.hts, fgs p.figs, .msl 6 0 p.scs.length cap]) ∧ H' = [o0, o1, .dead, .dead, .dead, .dead, .cells ((p.scs.map scC).flatten ++ List.replicate ((cap - p.scs.length) * 4) .any)]) :=
  acall_wk (copS2_call0 hh hf hs) fun y H1 ⟨cap, l1, l2, hcap, hy, hH⟩ => ⟨_, _, _, hy, Less.rfl' _, by subst hH; exact .cons (.same _) (.cons (.same _) (.cons (.dead _) (.cons (.dead _) (.cons (.same _) (.cons (.same _) (.cons (.same _) (.nil))))))), cap, hcap, rfl, rfl⟩
theorem copH2_call0 {p : Ply} {o0 : AObj} {o1 : AObj} (hh : 0 < p.hts.length ∧ p.hts.length ≤ 1000000) (hf : 0 < p.figs.length ∧ p.figs.length ≤ 1000000) (hs : 0 < p.scs.length ∧ p.scs.length ≤ 1000000) : ACall Tryz.prog 59 [plA p] [o0, o1] (fun y H' => ∃ cap l1 l2, p.hts.length ≤ cap ∧ y = .ret (.agg [I p.left, .msl 4 0 p.hts.length cap, fgs p.figs, scs p.scs]) ∧ H' = [o0, o1, .cells l1, .cells l2, .cells ((p.hts.map (fun x => [I x])).flatten ++ List.replicate ((cap - p.hts.length) * 1) .any), .dead, .dead]) := by
  refine acall_of (rs := [.cell 2 26]) Tryz.func59 rfl rfl (Nat.le_of_ble_eq_true rfl) fun e0 he0 => ?_
  refine wz 4 ?_
  refine sq_append_msl2 rfl sf22.h Tryz.underlying22 (less_nilx _) jz (by simpa using hh.1) (by simp; omega) (by simp; omega) (fun c1 hc1 hc1b => ?_)
  simp only [List.length_map] at hc1 hc1b ⊢
  refine nz ?_
  refine wz 4 ?_
  refine sq_append_msl2 rfl sf23.h Tryz.underlying23 (less_nilx _) jz (by simpa using hf.1) (by simp; omega) (by simp; omega) (fun c2 hc2 hc2b => ?_)
  simp only [List.length_map] at hc2 hc2b ⊢
  refine nz ?_
  refine wz 4 ?_
  refine sq_append_msl2 rfl sf24.h Tryz.underlying24 (less_nilx _) jz (by simpa using hs.1) (by simp; omega) (by simp; omega) (fun c3 hc3 hc3b => ?_)
  simp only [List.length_map] at hc3 hc3b ⊢
  refine nz ?_
  refine vz 2 ?_
  refine sq_nil ?_
  refine aw_seq ?_
  refine aw_sub (sub_freeze (j := 5) (n := p.figs.length) (cap := c2) (sz := 3) (es := p.figs.map fgC) (rest := List.replicate ((c2 - p.figs.length) * 3) .any) (sl' := [(1, .ptr 2 0), (2, .ptr 3 0)]) rfl (by simp) (fun q hq => by obtain ⟨x, _, rfl⟩ := List.mem_map.1 hq; rfl) (fun q hq => ?_) (FzH.same _ (by decide) (FzH.same _ (by decide) (FzH.cells (by decide) (FzL.cons (Fz.same _) (FzL.cons (Fz.same _) (FzL.cons Fz.frozen (FzL.cons (Fz.same _) FzL.nil)))) (FzH.same _ (by decide) (FzH.same _ (by decide) (FzH.dead _ rfl (FzH.same _ (by decide) (FzH.nil _))))))))) ?_
  ·simp only [List.mem_cons, List.not_mem_nil, or_false] at hq; rcases hq with rfl | rfl <;> exact Fz.same _
  refine nz ?_
  refine aw_sub (sub_freeze (j := 6) (n := p.scs.length) (cap := c3) (sz := 4) (es := p.scs.map scC) (rest := List.replicate ((c3 - p.scs.length) * 4) .any) (sl' := [(1, .ptr 2 0), (2, .ptr 3 0)]) rfl (by simp) (fun q hq => by obtain ⟨x, _, rfl⟩ := List.mem_map.1 hq; rfl) (fun q hq => ?_) (FzH.same _ (by decide) (FzH.same _ (by decide) (FzH.cells (by decide) (FzL.cons (Fz.same _) (FzL.cons (Fz.same _) (FzL.cons (Fz.same _) (FzL.cons Fz.frozen FzL.nil)))) (FzH.same _ (by decide) (FzH.same _ (by decide) (FzH.same _ (by decide) (FzH.dead _ rfl (FzH.nil _))))))))) ?_
  ·simp only [List.mem_cons, List.not_mem_nil, or_false] at hq; rcases hq with rfl | rfl <;> exact Fz.same _
  refine nz ?_
  refine wz 2 ?_
  exact ⟨rfl, _, rfl, c1, _, _, hc1, rfl, rfl⟩
theorem copH2_call {p : Ply} {o0 : AObj} {o1 : AObj} (hh : 0 < p.hts.length ∧ p.hts.length ≤ 1000000) (hf : 0 < p.figs.length ∧ p.figs.length ≤ 1000000) (hs : 0 < p.scs.length ∧ p.scs.length ≤ 1000000) : ACall Tryz.prog 59 [plA p] [o0, o1] (fun y H' => ∃ cap, p.hts.length ≤ cap ∧ y = .ret (.agg [I p.left, .msl 4 0 p.hts.length cap, fgs p.figs, scs p.scs]) ∧ H' = [o0, o1, .dead, .dead, .cells ((p.hts.map (fun x => [I x])).flatten ++ List.replicate ((cap - p.hts.length) * 1) .any), .dead, .dead]) :=
  acall_wk (copH2_call0 hh hf hs) fun y H1 ⟨cap, l1, l2, hcap, hy, hH⟩ => ⟨_, _, _, hy, Less.rfl' _, by subst hH; exact .cons (.same _) (.cons (.same _) (.cons (.dead _) (.cons (.dead _) (.cons (.same _) (.cons (.same _) (.cons (.same _) (.nil))))))), cap, hcap, rfl, rfl⟩
end Go.Proofs.YtfmpabgblbbcdaaGreatDoor
namespace Go.Proofs.YtfmpabgblbbcdaaGreatDoor
open Go Go.Ab Ni St
open Hd hiding sz
instance en40 : EnT Tryz.prog 40 := ⟨Ent.of Tryz.func40 (by kernel_rfl) rfl⟩
instance en42 : EnT Tryz.prog 42 := ⟨Ent.of Tryz.func42 (by kernel_rfl) rfl⟩
theorem row_at {R : List AV} {j : Nat} (hj : j < 4) : ∀ {k : Nat} {l : List Scn} (hk : k < l.length), ((l.map scC).flatten ++ R)[0 + k * 4 + j]? = (scC l[k])[j]?
  | 0, x :: l, _ => by
    rw [List.map_cons, List.flatten_cons, List.append_assoc, List.getElem?_append_left (by show 0 + 0 * 4 + j < 4; omega)]
    rw [show 0 + 0 * 4 + j = j by omega]; rfl
  | k + 1, x :: l, hk => by
    have ih := row_at (R := R) hj (k := k) (l := l) (by simpa using hk)
    rw [List.map_cons, List.flatten_cons, List.append_assoc, List.getElem?_append_right (by show 4 ≤ 0 + (k + 1) * 4 + j; omega)]
    have e : 0 + (k + 1) * 4 + j - (scC x).length = 0 + k * 4 + j := by show _ - 4 = _; omega
    rw [e]; exact ih
theorem row_set {R : List AV} {j : Nat} (hj : j < 4) {v : AV} {x' : Scn} : ∀ {k : Nat} {l : List Scn} (hk : k < l.length), scC x' = (scC l[k]).set j v → ((l.map scC).flatten ++ R).set (0 + k * 4 + j) v = ((l.set k x').map scC).flatten ++ R
  | 0, x :: l, _, h => by
    rw [List.map_cons, List.flatten_cons, List.append_assoc, show 0 + 0 * 4 + j = j by omega, List.set_append_left _ _ (by show j < 4; omega)]
    rw [List.set_cons_zero, List.map_cons, List.flatten_cons, List.append_assoc]
    rw [h]; rfl
  | k + 1, x :: l, hk, h => by
    have ih := row_set (R := R) hj (v := v) (x' := x') (k := k) (l := l) (by simpa using hk) h
    rw [List.map_cons, List.flatten_cons, List.append_assoc, List.set_append_right _ _ (by show 4 ≤ 0 + (k + 1) * 4 + j; omega)]
    have e : 0 + (k + 1) * 4 + j - (scC x).length = 0 + k * 4 + j := by show _ - 4 = _; omega
    rw [e, ih, List.set_cons_succ, List.map_cons, List.flatten_cons, List.append_assoc]
theorem fl_fld (l : List Scn) (R : List AV) {k j : Nat} (hk : k < l.length) (hj : j < 4) (v : AV) (x' : Scn) (h : scC x' = (scC l[k]).set j v) :
    ((l.map scC).flatten ++ R).take (0 + k * 4 + j) ++ [v] ++ ((l.map scC).flatten ++ R).drop (0 + k * 4 + j + 1) = ((l.set k x').map scC).flatten ++ R := by
  have hl : ((l.map scC).flatten).length = l.length * 4 := fl_len (f := scC) (sz := 4) (fun a => rfl) l
  rw [← row_set hj hk h, List.set_eq_take_append_cons_drop, if_pos (by rw [List.length_append, hl]; omega)]
  simp
theorem row_len (l : List Scn) (R : List AV) {k j : Nat} (hk : k < l.length) (hj : j < 4) : Nat.ble (0 + k * 4 + j + 1) ((l.map scC).flatten ++ R).length = true :=
  Nat.ble_eq_true_of_le (by rw [List.length_append, fl_len (f := scC) (sz := 4) (fun a => rfl)]; omega)
theorem fld2 {a b : Nat} {v : AV} {M N O : List AV} (h1 : M = N) (h2 : N.take a ++ [v] ++ N.drop b = O) : M.take a ++ [v] ++ M.drop b = O := by rw [h1]; exact h2
theorem pl_bd {p : Ply} (B : PlB p) : (0 < p.hts.length ∧ p.hts.length ≤ 1000000) ∧ (0 < p.figs.length ∧ p.figs.length ≤ 1000000) ∧ (0 < p.scs.length ∧ p.scs.length ≤ 1000000) := by
  have := B.nh; have := B.nf; have := B.ns; omega
def cutM (F : List Int) (x : Scn) : Scn := { x with moved := cutN F x.moved }
theorem rlow_pure {p : Ply} (gP : PlB p) {n : Nat} (hn : n < 10) : APure Tryz.prog 42 [plA p, I n] (plA (lowP p n)) := by
  refine ap Tryz.func42 (fun e0 he0 => ?_)
  refine aw_seq ?_
  have hnh := gP.nh
  refine wz 3 ?_
  refine sq_call (args := [plA p]) rfl en59.h jz ⟨jz, trivial⟩ (copH2_call (pl_bd gP).1 (pl_bd gP).2.1 (pl_bd gP).2.2) ?_ (by rintro v H' ⟨_, _, h, _⟩; cases h)
  rintro v H' ⟨cap, hcap, h, rfl⟩
  cases h
  refine wz 2 ?_
  refine aw_loopk (ι := { i : Nat // i ≤ p.hts.length }) [1, 2, 4] (fun g => [(5, I (g.1 : Nat))]) (fun H g => [.cells [I p.left, .msl 4 0 p.hts.length cap, fgs p.figs, scs p.scs], .cells [I 0, .raw (.slice none 0 0), .raw (.slice none 0 0), .raw (.slice none 0 0)], .dead, .dead, .cells (((lowK p n g.1).map fun x => [I x]).flatten ++ List.replicate ((cap - p.hts.length) * 1) .any), .dead, .dead]) (fun g => p.hts.length - g.1) (⟨0, Nat.zero_le _⟩) ⟨jz, jz, jz, jz, trivial⟩ (by show _ = _; rw [lowK_zero]; rfl) ?_
  rintro ⟨i, hi⟩
  refine nz ?_
  refine wz 3 ?_
  refine sq_ev rfl (ev_len_msl sl22.h jz) ?_
  refine wz 1 ?_
  refine iz (fun c_12 c_12' => ?_) (fun c_12 c_12' => ?_)
  ·have hil : i < p.hts.length := by omega
   have hbh := gP.ht _ (List.getElem_mem hil)
   have eR := (fl_set (f := fun x => [I x]) (sz := 1) (fun a => rfl) (lowK p n i) (List.replicate ((cap - p.hts.length) * 1) AV.any) (i := i) (by rw [lowK_len (by omega)]; exact hil) (p.hts[i] - (n : Int))).trans (by rw [← lowK_succ hil])
   refine wz 0 ?_
   refine aw_draw 11 mo (by kernel_rfl) ?_
   refine dz 6 ?_
   refine dr_ev rfl (ev_index_msl (k := i) sl22.h jz jz rfl hil) ?_
   refine dr_ev rfl (ev_load (v := I p.hts[i]) jz rfl ty3.h (hts_row hil)) ?_
   refine dz 1 ?_
   refine dr_ev rfl (ev_sub (q := p.hts[i] - n) jz jz (wr (by omega) (by omega))) ?_
   refine dr_ev rfl (ev_index_msl (k := i) sl22.h jz jz rfl hil) ?_
   refine dr_end ?_
   refine sq_store (j := 4) (off := 0 + i * 1) rfl jz jz rfl rfl ty3.h rfl (Nat.ble_eq_true_of_le (by rw [List.length_append, fl_len (f := fun x => [I x]) (sz := 1) (fun a => rfl), lowK_len (by omega)]; omega)) ?_
   refine wz 3 ?_
   exact ⟨⟨i + 1, by omega⟩, by simp only; omega, sb 7 ⟨jz, jz, jz, jz, trivial⟩ (hH := (congrArg (fun L => [AObj.cells [I p.left, .msl 4 0 p.hts.length cap, fgs p.figs, scs p.scs], AObj.cells [I 0, .raw (.slice none 0 0), .raw (.slice none 0 0), .raw (.slice none 0 0)], AObj.dead, AObj.dead, AObj.cells L, AObj.dead, AObj.dead]) eR)) (h2 := (by simp [objsIn, AObj.inB, AV.inB, AV.inL, inL_row]))⟩
  obtain rfl : i = p.hts.length := by omega
  refine aw_exit ?_
  refine aw_seq ?_
  rw [lowK_all]
  refine aw_sub (sub_freeze (j := 4) (n := p.hts.length) (cap := cap) (sz := 1) (es := (lowP p n).hts.map fun x => [I x]) (rest := List.replicate ((cap - p.hts.length) * 1) .any) (sl' := [(2, .ptr 0 0), (4, .ptr 1 0)]) rfl (by simp [lowP]) (fun q hq => by obtain ⟨x, _, rfl⟩ := List.mem_map.1 hq; rfl) (fun q hq => ?_) (FzH.cells (by decide) (FzL.cons (Fz.same _) (FzL.cons Fz.frozen (FzL.cons (Fz.same _) (FzL.cons (Fz.same _) FzL.nil)))) (FzH.same _ (by decide) (FzH.same _ (by decide) (FzH.same _ (by decide) (FzH.dead _ rfl (FzH.same _ (by decide) (FzH.same _ (by decide) (FzH.nil _))))))))) ?_
  ·simp only [List.mem_cons, List.not_mem_nil, or_false] at hq; rcases hq with rfl | rfl <;> exact Fz.same _
  refine nz ?_
  refine wz 2 ?_
  exact retQ_res (vs := [.agg _]) rfl rfl ⟨resVar_cell rfl rfl ty26.h rfl, trivial⟩ jz
theorem rwithout_pure {p : Ply} (gP : PlB p) {F : List Int} (hF : F.length ≤ 1000000) : APure Tryz.prog 40 [plA p, ints F] (plA (outP p F)) := by
  refine ap Tryz.func40 (fun e0 he0 => ?_)
  refine wz 3 ?_
  refine sq_call (args := [plA p]) rfl en59.h jz ⟨jz, trivial⟩ (copS2_call (pl_bd gP).1 (pl_bd gP).2.1 (pl_bd gP).2.2) ?_ (by rintro v H' ⟨_, _, h, _⟩; cases h)
  rintro v H' ⟨cap, hcap, h, rfl⟩
  cases h
  refine wz 2 ?_
  refine aw_loopk (ι := { k : Nat // k ≤ p.scs.length }) [1, 2, 4] (fun g => [(5, I (g.1 : Nat))]) (fun H g => [.cells [I p.left, ints p.hts, fgs p.figs, .msl 6 0 p.scs.length cap], .cells [I 0, .raw (.slice none 0 0), .raw (.slice none 0 0), .raw (.slice none 0 0)], .dead, .dead, .dead, .dead, .cells (((outK p F g.1).map scC).flatten ++ List.replicate ((cap - p.scs.length) * 4) .any)]) (fun g => p.scs.length - g.1) (⟨0, Nat.zero_le _⟩) ⟨jz, jz, jz, jz, trivial⟩ (by show _ = _; rw [outK_zero]; rfl) ?_
  rintro ⟨k, hk⟩
  refine nz ?_
  refine wz 3 ?_
  refine sq_ev rfl (ev_len_msl sl24.h jz) ?_
  refine wz 1 ?_
  refine iz (fun c_12 c_12' => ?_) (fun c_12 c_12' => ?_)
  ·have hkl : k < p.scs.length := by omega
   have e1 := fl_fld (outK p F k) (List.replicate ((cap - p.scs.length) * 4) AV.any) (k := k) (j := 0) (by rw [outK_len (by omega)]; exact hkl) (by decide) (ints (cutN F p.scs[k].moved)) (cutM F p.scs[k]) (by rw [outK_get (F := F) hkl]; rfl)
   have eR := fld2 e1 ((fl_fld ((outK p F k).set k (cutM F p.scs[k])) (List.replicate ((cap - p.scs.length) * 4) AV.any) (k := k) (j := 1) (by rw [List.length_set]; exact (by rw [outK_len (by omega)]; exact hkl)) (by decide) (ints (cutN F p.scs[k].rest)) (cutX F p.scs[k]) (by rw [List.getElem_set_self]; rfl)).trans (by rw [List.set_set, ← outK_succ hkl]))
   refine aw_skip ?_
   refine aw_seq ?_
   refine aw_block ?_
   have hns := gP.ns
   have gX := gP.sc _ (List.getElem_mem hkl)
   have hml := rising_len gX.mv
   have hrl := rising_len gX.rs
   have hnf := gP.nf
   have eRw := outK_get (F := F) hkl
   refine aw_drawl [(24, 6), (27, 6)] mo (by kernel_rfl) ?_
   first | refine dl_ev [6] rfl (by kernel_rfl) (ev_fieldAddr fo26_3.h jz) ?_ | refine dl_ev [6] rfl (by kernel_rfl) (ev_fieldAddr_i fo26_3.h jz) ?_
   first | refine dl_ev [6] rfl (by kernel_rfl) (ev_load jz rfl ty24.h rfl) ?_ | refine dl_ev [6] rfl (by kernel_rfl) (ev_load_i jz ty24.h rfl) ?_
   refine dl_ev [6] rfl (by kernel_rfl) (ev_mv (v := .raw _) jz) ?_
   first | refine dl_ev [6] rfl (by kernel_rfl) (ev_fieldAddr fo26_3.h jz) ?_ | refine dl_ev [6] rfl (by kernel_rfl) (ev_fieldAddr_i fo26_3.h jz) ?_
   first | refine dl_ev [6] rfl (by kernel_rfl) (ev_load jz rfl ty24.h rfl) ?_ | refine dl_ev [6] rfl (by kernel_rfl) (ev_load_i jz ty24.h rfl) ?_
   refine dl_ev [6] rfl (by kernel_rfl) (ev_mv (v := .raw _) jz) ?_
   first | refine dl_ev [6] rfl (by kernel_rfl) (ev_fieldAddr fo26_3.h jz) ?_ | refine dl_ev [6] rfl (by kernel_rfl) (ev_fieldAddr_i fo26_3.h jz) ?_
   first | refine dl_ev [6] rfl (by kernel_rfl) (ev_load jz rfl ty24.h rfl) ?_ | refine dl_ev [6] rfl (by kernel_rfl) (ev_load_i jz ty24.h rfl) ?_
   refine dl_ev [6] rfl (by kernel_rfl) (ev_mv (v := .raw _) jz) ?_
   refine dl_ev [6] rfl (by kernel_rfl) (ev_index_msl (k := k) sl24.h jz jz rfl hkl) ?_
   first | refine dl_ev [6] rfl (by kernel_rfl) (ev_fieldAddr fo41_0.h jz) ?_ | refine dl_ev [6] rfl (by kernel_rfl) (ev_fieldAddr_i fo41_0.h jz) ?_
   refine dl_ev [] rfl (by kernel_rfl) (ev_load (v := ints p.scs[k].moved) jz rfl ty22.h (by rw [row_at (j := 0) (by decide) (by rw [outK_len (by omega)]; exact hkl), eRw]; rfl)) ?_
   first | refine dl_ev [6] rfl (by kernel_rfl) (ev_mv (v := .sl _ _) jz) ?_ | refine dl_ev [6] rfl (by kernel_rfl) (ev_mv (v := .own _ _ _) jz) ?_ | refine dl_ev [6] rfl (by kernel_rfl) (ev_mv (v := .raw _) jz) ?_ | refine dl_ev [6] rfl (by kernel_rfl) (ev_mv (v := .slx _ _) jz) ?_ | refine dl_ev [6] rfl (by kernel_rfl) (ev_mv (v := .msl _ _ _ _) jz) ?_
   refine dl_ev [6] rfl (by kernel_rfl) (ev_call en96.h jz (rcut_pure F p.scs[k].moved hF (by omega)) ⟨jz, jz, trivial⟩) ?_
   first | refine dl_ev [6] rfl (by kernel_rfl) (ev_fieldAddr fo26_3.h jz) ?_ | refine dl_ev [6] rfl (by kernel_rfl) (ev_fieldAddr_i fo26_3.h jz) ?_
   first | refine dl_ev [6] rfl (by kernel_rfl) (ev_load jz rfl ty24.h rfl) ?_ | refine dl_ev [6] rfl (by kernel_rfl) (ev_load_i jz ty24.h rfl) ?_
   refine dl_ev [6] rfl (by kernel_rfl) (ev_mv (v := .raw _) jz) ?_
   refine dl_ev [6] rfl (by kernel_rfl) (ev_index_msl (k := k) sl24.h jz jz rfl hkl) ?_
   first | refine dl_ev [6] rfl (by kernel_rfl) (ev_fieldAddr fo41_1.h jz) ?_ | refine dl_ev [6] rfl (by kernel_rfl) (ev_fieldAddr_i fo41_1.h jz) ?_
   refine dl_ev [] rfl (by kernel_rfl) (ev_load (v := ints p.scs[k].rest) jz rfl ty22.h (by rw [row_at (j := 1) (by decide) (by rw [outK_len (by omega)]; exact hkl), eRw]; rfl)) ?_
   first | refine dl_ev [6] rfl (by kernel_rfl) (ev_mv (v := .sl _ _) jz) ?_ | refine dl_ev [6] rfl (by kernel_rfl) (ev_mv (v := .own _ _ _) jz) ?_ | refine dl_ev [6] rfl (by kernel_rfl) (ev_mv (v := .raw _) jz) ?_ | refine dl_ev [6] rfl (by kernel_rfl) (ev_mv (v := .slx _ _) jz) ?_ | refine dl_ev [6] rfl (by kernel_rfl) (ev_mv (v := .msl _ _ _ _) jz) ?_
   refine dl_ev [6] rfl (by kernel_rfl) (ev_call en96.h jz (rcut_pure F p.scs[k].rest hF (by omega)) ⟨jz, jz, trivial⟩) ?_
   refine dl_ev [6] rfl (by kernel_rfl) (ev_index_msl (k := k) sl24.h jz jz rfl hkl) ?_
   first | refine dl_ev [6] rfl (by kernel_rfl) (ev_fieldAddr fo41_0.h jz) ?_ | refine dl_ev [6] rfl (by kernel_rfl) (ev_fieldAddr_i fo41_0.h jz) ?_
   refine dl_eff rfl (by kernel_rfl) rfl rfl (effl_store (off := 0 + k * 4 + 0) rfl jz jz rfl ty22.h rfl (row_len (outK p F k) _ (j := 0) (by rw [outK_len (by omega)]; exact hkl) (by decide))) ?_
   refine dl_ev [6] rfl (by kernel_rfl) (ev_index_msl (k := k) sl24.h jz jz rfl hkl) ?_
   first | refine dl_ev [6] rfl (by kernel_rfl) (ev_fieldAddr fo41_1.h jz) ?_ | refine dl_ev [6] rfl (by kernel_rfl) (ev_fieldAddr_i fo41_1.h jz) ?_
   refine dl_eff rfl (by kernel_rfl) rfl rfl (effl_store (off := 0 + k * 4 + 1) rfl jz jz rfl ty22.h rfl ((congrArg (fun l => Nat.ble (0 + k * 4 + 1 + 1) l.length) e1).trans (row_len ((outK p F k).set k (cutM F p.scs[k])) _ (j := 1) (by rw [List.length_set]; exact (by rw [outK_len (by omega)]; exact hkl)) (by decide)))) ?_
   refine dl_nil ?_
   refine nz ?_
   refine wz 3 ?_
   exact ⟨⟨k + 1, by omega⟩, by simp only; omega, sb 7 ⟨jz, jz, jz, jz, trivial⟩ (hH := (congrArg (fun L => [_, _, _, _, _, _, AObj.cells L]) eR)) (h2 := (by simp [objsIn, AObj.inB, AV.inB, AV.inL, inL_rowS]))⟩
  obtain rfl : k = p.scs.length := by omega
  refine aw_exit ?_
  refine aw_seq ?_
  rw [outK_all]
  refine aw_sub (sub_freeze (j := 6) (n := p.scs.length) (cap := cap) (sz := 4) (es := (outP p F).scs.map scC) (rest := List.replicate ((cap - p.scs.length) * 4) .any) (sl' := [(2, .ptr 0 0), (4, .ptr 1 0)]) rfl (by simp [outP]) (fun q hq => by obtain ⟨x, _, rfl⟩ := List.mem_map.1 hq; rfl) (fun q hq => ?_) (FzH.cells (by decide) (FzL.cons (Fz.same _) (FzL.cons (Fz.same _) (FzL.cons (Fz.same _) (FzL.cons Fz.frozen FzL.nil)))) (FzH.same _ (by decide) (FzH.same _ (by decide) (FzH.same _ (by decide) (FzH.same _ (by decide) (FzH.same _ (by decide) (FzH.dead _ rfl (FzH.nil _))))))))) ?_
  ·simp only [List.mem_cons, List.not_mem_nil, or_false] at hq; rcases hq with rfl | rfl <;> exact Fz.same _
  refine nz ?_
  refine wz 2 ?_
  exact retQ_res (vs := [.agg _]) rfl rfl ⟨resVar_cell rfl rfl ty26.h rfl, trivial⟩ jz
end Go.Proofs.YtfmpabgblbbcdaaGreatDoor
namespace Go.Proofs.YtfmpabgblbbcdaaGreatDoor
open Go Go.Ab Ni St
open Hd hiding sz
instance en36 : EnT Tryz.prog 36 := ⟨Ent.of Tryz.func36 (by kernel_rfl) rfl⟩
instance en37 : EnT Tryz.prog 37 := ⟨Ent.of Tryz.func37 (by kernel_rfl) rfl⟩
instance en94 : EnT Tryz.prog 94 := ⟨Ent.of Tryz.func94 (by kernel_rfl) rfl⟩
def lowerI (p : Ply) : Int := match lower p with | some n => n | none => -1
theorem lowerI_s {p : Ply} {n : Nat} (h : lower p = some n) : lowerI p = n := by unfold lowerI; rw [h]
theorem lowerI_n {p : Ply} (h : lower p = none) : lowerI p = -1 := by unfold lowerI; rw [h]
theorem failI_t {p : Ply} (h : failI p < 0) : plays0 p = true := by
  unfold failI at h; unfold plays0
  cases e : failsAt p with
  | none => rfl
  | some n => rw [e] at h; simp only at h; omega
theorem failI_f {p : Ply} (h : ¬ failI p < 0) : plays0 p = false := by
  unfold failI at h; unfold plays0
  cases e : failsAt p with
  | none => rw [e] at h; simp only at h; omega
  | some n => rfl
theorem failI_d (p : Ply) : decide (failI p < 0) = plays0 p := by
  by_cases h : failI p < 0
  · rw [decide_eq_true h, failI_t h]
  · rw [decide_eq_false h, failI_f h]
def lfR (p : Ply) (d : Nat) (frm : Nat) (now : List Int) : List Int × Bool := match plan (okF p) d ((every p.figs.length).drop frm) now with
  | some l => (l, true)
  | none => (if d = 0 then now else [], false)
abbrev lfV (p : Ply) (d frm : Nat) (now : List Int) : AV := .tup [ints (lfR p d frm now).1, B (lfR p d frm now).2]
theorem lfR_s {p : Ply} {d frm : Nat} {now l : List Int} (h : plan (okF p) d ((every p.figs.length).drop frm) now = some l) : lfR p d frm now = (l, true) := by unfold lfR; rw [h]
theorem lfR_n {p : Ply} {d frm : Nat} {now : List Int} (h : plan (okF p) (d + 1) ((every p.figs.length).drop frm) now = none) : lfR p (d + 1) frm now = ([], false) := by unfold lfR; rw [h]; rfl
theorem lfR_0 (p : Ply) (frm : Nat) (now : List Int) : lfR p 0 frm now = (now, okF p now) := by
  unfold lfR
  rw [plan]
  cases h : okF p now with
  | true => rfl
  | false => rfl
theorem lfR_T {p : Ply} {d frm : Nat} {now : List Int} (h : (lfR p d frm now).2 = true) : plan (okF p) d ((every p.figs.length).drop frm) now = some (lfR p d frm now).1 := by
  cases e : plan (okF p) d ((every p.figs.length).drop frm) now with
  | some l => rw [lfR_s e]
  | none => unfold lfR at h; rw [e] at h; cases h
theorem lfR_F {p : Ply} {d frm : Nat} {now : List Int} (h : (lfR p d frm now).2 = false) : plan (okF p) d ((every p.figs.length).drop frm) now = none := by
  cases e : plan (okF p) d ((every p.figs.length).drop frm) now with
  | none => rfl
  | some l => unfold lfR at h; rw [e] at h; cases h
def FrI (now : List Int) (frm : Nat) : Prop := (now = [] ∧ frm = 0) ∨ ∃ (h : 0 < now.length), now[now.length - 1] + 1 = (frm : Int)
theorem FrI.snoc (now : List Int) (f : Nat) : FrI (now ++ [(f : Int)]) (f + 1) := .inr ⟨by simp, by simp⟩
theorem drop_every {n i : Nat} (h : i < n) : (every n).drop i = (i : Int) :: (every n).drop (i + 1) := by
  rw [List.drop_eq_getElem_cons (by simpa [every] using h)]; simp [every]
theorem plan_step {ok : List Int → Bool} {d n i : Nat} {now : List Int} (h : i < n) : plan ok (d + 1) ((every n).drop i) now = match plan ok d ((every n).drop (i + 1)) (now ++ [(i : Int)]) with | some l => some l | none => plan ok (d + 1) ((every n).drop (i + 1)) now := by
  rw [drop_every h]; rfl
theorem leaves_mem {p : Ply} {l : List Int} (h : leaves p = some l) : l.length ≤ p.figs.length := rising_len (leaves_is h).1
theorem rlower_pure {p : Ply} (gP : PlB p) (hh : ∀ n ∈ p.hts, 1 ≤ n ∧ n ≤ 9) : APure Tryz.prog 37 [plA p] (I (lowerI p)) := by
  refine ap Tryz.func37 (fun e0 he0 => ?_)
  refine wz 3 ?_
  refine aw_loopk (ι := { n : Nat // n ≤ 10 ∧ ∀ j, j < n → plays0 (lowP p j) = false }) [1] (fun g => [(3, I (g.1 : Nat))]) (fun H g => H) (fun g => 10 - g.1) (⟨0, Nat.zero_le _, by omega⟩) ⟨jz, jz, trivial⟩ rfl ?_
  rintro ⟨n, hn, hno⟩
  refine nz ?_
  refine wz 2 ?_
  refine iz (fun c_5 c_5' => ?_) (fun c_5 c_5' => ?_)
  ·have hn10 : n < 10 := by omega
   refine wz 2 ?_
   refine kz az (rlow_pure gP hn10) ?_
   refine kz az (rfails_pure (lowP_B gP hh hn10)) ?_
   refine wz 1 ?_
   refine iz (fun c_12 c_12' => ?_) (fun c_12 c_12' => ?_)
   ·have hl := lowerI_s (lower_some hn10 (failI_t (by simpa using c_12)) hno)
    refine wz 2 ?_
    exact rz rfl (Less.eq (by rw [hl]))
   have hpn := failI_f (by simpa using c_12)
   refine wz 3 ?_
   exact ⟨⟨n + 1, by omega, fun j hj => (by by_cases e : j = n; (subst e; exact hpn); exact hno j (by omega))⟩, by simp only; omega, Sub.slots ⟨jz, jz, trivial⟩⟩
  obtain rfl : n = 10 := by omega
  have hl := lowerI_n (lower_none hno)
  refine wz 1 ?_
  exact rz rfl (Less.eq (by rw [hl]))
theorem rleft_step {p : Ply} (gP : PlB p) (dd : Nat) (ih : ∀ d, dd = d + 1 → ∀ (now : List Int) (frm : Nat), now.length + d ≤ 100 → FrI now frm → frm ≤ p.figs.length → APure Tryz.prog 94 [plA p, ints now, I (now.length + d : Nat)] (lfV p d frm now)) (now : List Int) (frm : Nat) (hl : now.length + dd ≤ 100) (hF : FrI now frm) (hfr : frm ≤ p.figs.length) : APure Tryz.prog 94 [plA p, ints now, I (now.length + dd : Nat)] (lfV p dd frm now) := by
  refine ap Tryz.func94 (fun e0 he0 => ?_)
  refine vz 3 ?_
  refine sq_nil ?_
  refine aw_seq ?_
  refine aw_seq ?_
  have hnf := gP.nf
  refine wz 4 ?_
  refine iz (fun c_15 c_15' => ?_) (fun c_15 c_15' => ?_)
  ·obtain rfl : dd = 0 := by omega
   refine wz 3 ?_
   refine kz az (rwithout_pure gP (F := now) (by omega)) ?_
   refine kz az (rfails_pure (outP_B gP now)) ?_
   refine wz 3 ?_
   exact retQ_pure (v := .tup [.sl _ _, .raw _]) rfl rfl (Less.eq (by show _ = AV.tup [ints (lfR p 0 frm now).1, B (lfR p 0 frm now).2]; rw [lfR_0, show okF p now = plays0 (outP p now) from rfl, ← failI_d]))
  obtain ⟨d, rfl⟩ : ∃ d, dd = d + 1 := ⟨dd - 1, by omega⟩
  refine wz 4 ?_
  refine iz (fun c_24 c_24' => ?_) (fun c_24 c_24' => ?_)
  ·have hx : now[now.length - 1]'(by omega) + 1 = (frm : Int) := by rcases hF with ⟨h, _⟩ | ⟨_, h⟩; (rw [h] at c_24'; simp at c_24'); exact h
   refine wz 4 ?_
   refine sq_ev rfl (ev_index_map (k := now.length - 1) (xs := now) sl22.h jz jz (by omega) (by omega)) ?_
   refine wz 5 ?_
   refine aw_loopk (ι := { f : Nat // (frm ≤ f ∧ f ≤ p.figs.length) ∧ plan (okF p) (d + 1) ((every p.figs.length).drop frm) now = plan (okF p) (d + 1) ((every p.figs.length).drop f) now }) [1, 2, 3] (fun g => [(9, I (g.1 : Nat))]) (fun H g => H) (fun g => p.figs.length - g.1) (⟨frm, ⟨Nat.le_refl _, hfr⟩, rfl⟩) ⟨(by exact less_int (by show _ = ((frm : Nat) : Int); first | exact hx | omega)), jz, jz, jz, trivial⟩ rfl ?_
   rintro ⟨f, ⟨hf1, hf2⟩, heq⟩
   refine nz ?_
   refine wz 5 ?_
   refine iz (fun c_37 c_37' => ?_) (fun c_37 c_37' => ?_)
   ·have hfl : f < p.figs.length := by omega
    refine wz 0 ?_
    refine aw_drawc [] [2, 5] _ mo (by kernel_rfl) (HSub.mask [] 0 _) ?_
    first | refine dc_ev rfl (ev_load_agg jz rfl ty26.h rfl) ?_ | refine dc_ev rfl (ev_load_agg_i jz ty26.h (by exact Nat.le_of_ble_eq_true rfl)) ?_
    first | refine dc_ev rfl (ev_mv (v := .sl _ _) jz) ?_ | refine dc_ev rfl (ev_mv (v := .own _ _ _) jz) ?_ | refine dc_ev rfl (ev_mv (v := .raw _) jz) ?_ | refine dc_ev rfl (ev_mv (v := .slx _ _) jz) ?_ | refine dc_ev rfl (ev_mv (v := .msl _ _ _ _) jz) ?_
    refine dc_eff rfl rfl (eff_append_new rfl sf22.h Tryz.underlying22 (less_nilx _) jz (by simp; omega) (by simp; omega)) (by apply HL.sub; repeat' (first | exact HL.nil _ | apply HL.same | apply HL.tok)) ?_
    refine dc_ev rfl (ev_mv (v := .raw _) jz) ?_
    refine dc_ev rfl (ev_buildSlice (es := [[_]]) sf22.h rfl rfl rfl rfl) ?_
    refine dc_eff rfl rfl (eff_append rfl sf22.h Tryz.underlying22 rfl rfl (less_slx _ _) (by simp; omega) (by simp; omega)) (by apply HL.sub; repeat' (first | exact HL.nil _ | apply HL.same | apply HL.tok)) ?_
    refine dc_ev rfl (ev_mv (v := .raw _) jz) ?_
    refine dc_ev rfl (ev_call en94.h jz (ih d rfl (now ++ [(f : Int)]) (f + 1) (by simp; omega) (FrI.snoc now f) (by omega)) ⟨jz, Less.trans (less_own _ _ _) (Less.eq (by simp)), (by exact less_int (by simp; omega)), trivial⟩) ?_
    refine dc_ev rfl (ev_mv (v := .tup _) jz) ?_
    refine dc_ev rfl (ev_extract jz rfl) ?_
    refine dc_ev rfl (ev_extract jz rfl) ?_
    first | refine dc_ev rfl (ev_as (v := .sl _ _) jz) ?_ | refine dc_ev rfl (ev_as (v := .own _ _ _) jz) ?_ | refine dc_ev rfl (ev_as (v := .raw _) jz) ?_ | refine dc_ev rfl (ev_as (v := .slx _ _) jz) ?_ | refine dc_ev rfl (ev_as (v := .msl _ _ _ _) jz) ?_
    refine dc_ev rfl (ev_as (v := .raw _) jz) ?_
    refine dc_nil ?_
    refine wz 1 ?_
    refine iz (fun c_51 c_51' => ?_) (fun c_51 c_51' => ?_)
    ·have hp2 : plan (okF p) (d + 1) ((every p.figs.length).drop frm) now = some (lfR p d (f + 1) (now ++ [(f : Int)])).1 := by rw [heq, plan_step hfl, lfR_T (by simpa using c_51)]
     refine wz 3 ?_
     exact retQ_pure (v := .tup [.sl _ _, .raw _]) rfl rfl (Less.eq (by show _ = AV.tup [ints (lfR p (d + 1) frm now).1, B (lfR p (d + 1) frm now).2]; rw [lfR_s hp2]))
    have hpn : plan (okF p) d ((every p.figs.length).drop (f + 1)) (now ++ [(f : Int)]) = none := lfR_F (by simpa using c_51)
    refine wz 3 ?_
    exact ⟨⟨f + 1, ⟨by omega, by omega⟩, by rw [heq, plan_step hfl, hpn]⟩, by simp only; omega, sb 1 ⟨jz, jz, jz, jz, trivial⟩⟩
   obtain rfl : f = p.figs.length := by omega
   have hpno : plan (okF p) (d + 1) ((every p.figs.length).drop frm) now = none := by rw [heq, List.drop_of_length_le (by simp [every])]; rfl
   refine wz 2 ?_
   exact retQ_pure (v := .tup [.raw (.slice none 0 0), .raw _]) rfl rfl (Less.trans (b := .tup [ints [], B false]) (less_tup ⟨less_nil 1, jz, trivial⟩) (Less.eq (by show _ = AV.tup [ints (lfR p (d + 1) frm now).1, B (lfR p (d + 1) frm now).2]; rw [lfR_n hpno])))
  have hx : frm = 0 := by rcases hF with ⟨_, h⟩ | ⟨h, _⟩; exact h; omega
  refine wz 2 ?_
  refine aw_loopk (ι := { f : Nat // (frm ≤ f ∧ f ≤ p.figs.length) ∧ plan (okF p) (d + 1) ((every p.figs.length).drop frm) now = plan (okF p) (d + 1) ((every p.figs.length).drop f) now }) [1, 2, 3] (fun g => [(9, I (g.1 : Nat))]) (fun H g => H) (fun g => p.figs.length - g.1) (⟨frm, ⟨Nat.le_refl _, hfr⟩, rfl⟩) ⟨(by exact less_int (by show _ = ((frm : Nat) : Int); first | exact hx | omega)), jz, jz, jz, trivial⟩ rfl ?_
  rintro ⟨f, ⟨hf1, hf2⟩, heq⟩
  refine nz ?_
  refine wz 5 ?_
  refine iz (fun c_37 c_37' => ?_) (fun c_37 c_37' => ?_)
  ·have hfl : f < p.figs.length := by omega
   refine wz 0 ?_
   refine aw_drawc [] [2, 5] _ mo (by kernel_rfl) (HSub.mask [] 0 _) ?_
   first | refine dc_ev rfl (ev_load_agg jz rfl ty26.h rfl) ?_ | refine dc_ev rfl (ev_load_agg_i jz ty26.h (by exact Nat.le_of_ble_eq_true rfl)) ?_
   first | refine dc_ev rfl (ev_mv (v := .sl _ _) jz) ?_ | refine dc_ev rfl (ev_mv (v := .own _ _ _) jz) ?_ | refine dc_ev rfl (ev_mv (v := .raw _) jz) ?_ | refine dc_ev rfl (ev_mv (v := .slx _ _) jz) ?_ | refine dc_ev rfl (ev_mv (v := .msl _ _ _ _) jz) ?_
   refine dc_eff rfl rfl (eff_append_new rfl sf22.h Tryz.underlying22 (less_nilx _) jz (by simp; omega) (by simp; omega)) (by apply HL.sub; repeat' (first | exact HL.nil _ | apply HL.same | apply HL.tok)) ?_
   refine dc_ev rfl (ev_mv (v := .raw _) jz) ?_
   refine dc_ev rfl (ev_buildSlice (es := [[_]]) sf22.h rfl rfl rfl rfl) ?_
   refine dc_eff rfl rfl (eff_append rfl sf22.h Tryz.underlying22 rfl rfl (less_slx _ _) (by simp; omega) (by simp; omega)) (by apply HL.sub; repeat' (first | exact HL.nil _ | apply HL.same | apply HL.tok)) ?_
   refine dc_ev rfl (ev_mv (v := .raw _) jz) ?_
   refine dc_ev rfl (ev_call en94.h jz (ih d rfl (now ++ [(f : Int)]) (f + 1) (by simp; omega) (FrI.snoc now f) (by omega)) ⟨jz, Less.trans (less_own _ _ _) (Less.eq (by simp)), (by exact less_int (by simp; omega)), trivial⟩) ?_
   refine dc_ev rfl (ev_mv (v := .tup _) jz) ?_
   refine dc_ev rfl (ev_extract jz rfl) ?_
   refine dc_ev rfl (ev_extract jz rfl) ?_
   first | refine dc_ev rfl (ev_as (v := .sl _ _) jz) ?_ | refine dc_ev rfl (ev_as (v := .own _ _ _) jz) ?_ | refine dc_ev rfl (ev_as (v := .raw _) jz) ?_ | refine dc_ev rfl (ev_as (v := .slx _ _) jz) ?_ | refine dc_ev rfl (ev_as (v := .msl _ _ _ _) jz) ?_
   refine dc_ev rfl (ev_as (v := .raw _) jz) ?_
   refine dc_nil ?_
   refine wz 1 ?_
   refine iz (fun c_51 c_51' => ?_) (fun c_51 c_51' => ?_)
   ·have hp2 : plan (okF p) (d + 1) ((every p.figs.length).drop frm) now = some (lfR p d (f + 1) (now ++ [(f : Int)])).1 := by rw [heq, plan_step hfl, lfR_T (by simpa using c_51)]
    refine wz 3 ?_
    exact retQ_pure (v := .tup [.sl _ _, .raw _]) rfl rfl (Less.eq (by show _ = AV.tup [ints (lfR p (d + 1) frm now).1, B (lfR p (d + 1) frm now).2]; rw [lfR_s hp2]))
   have hpn : plan (okF p) d ((every p.figs.length).drop (f + 1)) (now ++ [(f : Int)]) = none := lfR_F (by simpa using c_51)
   refine wz 3 ?_
   exact ⟨⟨f + 1, ⟨by omega, by omega⟩, by rw [heq, plan_step hfl, hpn]⟩, by simp only; omega, sb 1 ⟨jz, jz, jz, jz, trivial⟩⟩
  obtain rfl : f = p.figs.length := by omega
  have hpno : plan (okF p) (d + 1) ((every p.figs.length).drop frm) now = none := by rw [heq, List.drop_of_length_le (by simp [every])]; rfl
  refine wz 2 ?_
  exact retQ_pure (v := .tup [.raw (.slice none 0 0), .raw _]) rfl rfl (Less.trans (b := .tup [ints [], B false]) (less_tup ⟨less_nil 1, jz, trivial⟩) (Less.eq (by show _ = AV.tup [ints (lfR p (d + 1) frm now).1, B (lfR p (d + 1) frm now).2]; rw [lfR_n hpno])))
theorem rleft_pure {p : Ply} (gP : PlB p) : ∀ (d : Nat) (now : List Int) (frm : Nat), now.length + d ≤ 100 → FrI now frm → frm ≤ p.figs.length → APure Tryz.prog 94 [plA p, ints now, I (now.length + d : Nat)] (lfV p d frm now)
  | 0, now, frm, h, hF, hfr => rleft_step gP 0 (fun d e => by omega) now frm h hF hfr
  | m + 1, now, frm, h, hF, hfr => rleft_step gP (m + 1) (fun d e now frm h hF hfr => by
      have e2 := Nat.succ.inj e
      subst e2
      exact rleft_pure gP m now frm h hF hfr) now frm h hF hfr
theorem rleft0 {p : Ply} (gP : PlB p) {m : Nat} (hm : m ≤ 100) : APure Tryz.prog 94 [plA p, ints [], I m] (lfV p m 0 []) := by
  have := rleft_pure gP m [] 0 (by simpa using hm) (.inl ⟨rfl, rfl⟩) (Nat.zero_le _)
  simpa using this
theorem rleaves_pure {p : Ply} (gP : PlB p) {l : List Int} (hl : leaves p = some l) : APure Tryz.prog 36 [plA p] (ints l) := by
  refine ap Tryz.func36 (fun e0 he0 => ?_)
  refine vz 2 ?_
  refine sq_nil ?_
  refine aw_seq ?_
  refine aw_seq ?_
  have hnf := gP.nf
  refine wz 1 ?_
  refine aw_loopk (ι := { m : Nat // m ≤ p.figs.length ∧ ∀ j, j < m → plan (okF p) j (every p.figs.length) [] = none }) [1] (fun g => [(3, I (g.1 : Nat))]) (fun H g => H) (fun g => p.figs.length - g.1) (⟨0, Nat.zero_le _, by omega⟩) ⟨jz, jz, trivial⟩ rfl ?_
  rintro ⟨m, hm, hno⟩
  refine nz ?_
  refine wz 5 ?_
  refine iz (fun c_12 c_12' => ?_) (fun c_12 c_12' => ?_)
  ·have hml : m < p.figs.length := by omega
   refine wz 2 ?_
   refine sq_ev rfl (ev_call en94.h jz (rleft0 gP (m := m) (by omega)) ⟨jz, less_nil 1, jz, trivial⟩) ?_
   refine wz 6 ?_
   refine iz (fun c_21 c_21' => ?_) (fun c_21 c_21' => ?_)
   ·have hp1 : plan (okF p) m (every p.figs.length) [] = some (lfR p m 0 []).1 := lfR_T (frm := 0) (by simpa using c_21)
    have hp2 : (lfR p m 0 []).1 = l := by have h3 : leaves p = _ := findSome_range (by omega) hp1 hno; rw [hl] at h3; exact (Option.some.inj h3).symm
    refine wz 2 ?_
    exact retQ_pure (v := .sl _ _) rfl rfl (Less.eq (by rw [hp2]))
   have hpn : plan (okF p) m (every p.figs.length) [] = none := lfR_F (frm := 0) (by simpa using c_21)
   refine wz 3 ?_
   exact ⟨⟨m + 1, by omega, fun j hj => (by by_cases e : j = m; (subst e; exact hpn); exact hno j (by omega))⟩, by simp only; omega, Sub.slots ⟨jz, jz, trivial⟩⟩
  obtain rfl : m = p.figs.length := by omega
  have hp2 : plan (okF p) p.figs.length (every p.figs.length) [] = some l := by obtain ⟨i, hi, h1, h2⟩ := findSome_inv hl; rcases Nat.lt_or_ge i p.figs.length with q | q; (rw [hno i q] at h1; cases h1); (obtain rfl : i = p.figs.length := by omega); exact h1
  refine wz 4 ?_
  refine sq_ev rfl (ev_call en94.h jz (rleft0 gP (m := p.figs.length) (by omega)) ⟨jz, less_nil 1, jz, trivial⟩) ?_
  refine wz 7 ?_
  exact retQ_pure (v := .sl _ _) rfl rfl (Less.eq (by rw [lfR_s (frm := 0) hp2]))
end Go.Proofs.YtfmpabgblbbcdaaGreatDoor
namespace Go.Proofs.YtfmpabgblbbcdaaGreatDoor
open Go Go.Ab Ni St
open Hd hiding sz
theorem rlow_s {p : Ply} (hr : plOK p = true) {n : Nat} (h : lower p = some n) : APure Tryz.prog 37 [plA p] (I n) := by have q := rlower_pure (plOK_B hr) (plOK_ht hr); rw [lowerI_s h] at q; exact q
theorem rlow_n {p : Ply} (hr : plOK p = true) (h : lower p = none) : APure Tryz.prog 37 [plA p] (I (-1)) := by have q := rlower_pure (plOK_B hr) (plOK_ht hr); rw [lowerI_n h] at q; exact q
theorem lv_bd {p : Ply} (hr : plOK p = true) {l : List Int} (h : leaves p = some l) : l.length ≤ 1000000 := by have := (plOK_B hr).nf; have := leaves_mem h; omega
theorem law6_a {p : Ply} (hs : shB p = false) : APure Tryz.prog 6 [plA p] (B true) := by
  refine ap Tryz.func6 (fun e0 he0 => ?_)
  refine wz 3 ?_
  refine kz az (short_f hs) ?_
  refine wz 2 ?_
  refine kz az (known_pure) ?_
  refine wz 1 ?_
  exact rz rfl jz
theorem law6_b {p : Ply} (hs : shB p = true) (hr : plOK p = false) : APure Tryz.prog 6 [plA p] (B true) := by
  refine ap Tryz.func6 (fun e0 he0 => ?_)
  refine wz 3 ?_
  refine kz az (short_t hs) ?_
  refine wz 3 ?_
  refine kz az (xlower_b1 (shB_len hs).1 (shB_len hs).2.1 (shB_len hs).2.2.1 (shB_len hs).2.2.2 hr) ?_
  refine wz 6 ?_
  refine kz az (xleaves_b1 (shB_len hs).1 (shB_len hs).2.1 (shB_len hs).2.2.1 (shB_len hs).2.2.2 hr) ?_
  refine wz 6 ?_
  refine kz az (pl_f hs hr) ?_
  refine wz 18 ?_
  refine ky az (known_pure) ?_
  refine wz 2 ?_
  exact rz rfl jz
theorem law6_c {p : Ply} (hs : shB p = true) (hr : plOK p = true) {l : List Int} (hl : leaves p = some l) (h : lower p = none) : APure Tryz.prog 6 [plA p] (B true) := by
  refine ap Tryz.func6 (fun e0 he0 => ?_)
  refine wz 3 ?_
  refine kz az (short_t hs) ?_
  refine wz 3 ?_
  refine kz az (xlower_no (shB_len hs).1 (shB_len hs).2.1 (shB_len hs).2.2.1 (shB_len hs).2.2.2 hr h) ?_
  refine wz 6 ?_
  refine kz az (xleaves_ok (shB_len hs).1 (shB_len hs).2.1 (shB_len hs).2.2.1 (shB_len hs).2.2.2 hr hl) ?_
  refine wz 6 ?_
  refine kz az (pl_t hs hr) ?_
  refine wz 7 ?_
  refine ky az (rleaves_pure (plOK_B hr) hl) ?_
  refine ky az (same_t (lv_bd hr hl) (lv_bd hr hl) rfl) ?_
  refine wz 4 ?_
  refine kz az (rlow_n hr h) ?_
  refine wz 11 ?_
  refine ky az (known_pure) ?_
  refine wz 2 ?_
  exact rz rfl jz
theorem law6_d {p : Ply} (hs : shB p = true) (hr : plOK p = true) {l : List Int} (hl : leaves p = some l) {m : Nat} (h : lower p = some m) : APure Tryz.prog 6 [plA p] (B true) := by
  refine ap Tryz.func6 (fun e0 he0 => ?_)
  refine wz 3 ?_
  refine kz az (short_t hs) ?_
  refine wz 3 ?_
  refine kz az (xlower_ok (shB_len hs).1 (shB_len hs).2.1 (shB_len hs).2.2.1 (shB_len hs).2.2.2 hr h) ?_
  refine wz 6 ?_
  refine kz az (xleaves_ok (shB_len hs).1 (shB_len hs).2.1 (shB_len hs).2.2.1 (shB_len hs).2.2.2 hr hl) ?_
  refine wz 6 ?_
  refine kz az (pl_t hs hr) ?_
  refine wz 7 ?_
  refine ky az (rleaves_pure (plOK_B hr) hl) ?_
  refine ky az (same_t (lv_bd hr hl) (lv_bd hr hl) rfl) ?_
  refine wz 4 ?_
  refine kz az (rlow_s hr h) ?_
  refine wz 3 ?_
  refine iz (fun c_55 c_55' => ?_) (fun c_55 c_55' => ?_)
  ·exfalso
   omega
  refine wz 8 ?_
  refine sz 72 (fun g12_7 g12_7' => ?_) (fun g12_7 g12_7' => ?_)
  ·refine ky az (known_pure) ?_
   refine wz 2 ?_
   exact rz rfl jz
  exfalso
  simp at g12_7
/-- **StemLowers.** -/
theorem law6 (p : Ply) : APure Tryz.prog 6 [plA p] (B true) := by
  cases hs : shB p with
  | false => exact law6_a hs
  | true =>
    cases hr : plOK p with
    | false => exact law6_b hs hr
    | true =>
      obtain ⟨l, hl⟩ := leaves_some (plOK_B hr)
      cases h : lower p with
      | none => exact law6_c hs hr hl h
      | some m => exact law6_d hs hr hl h
end Go.Proofs.YtfmpabgblbbcdaaGreatDoor
