/-
  A part of the proof: conditions: none beyond each theorem's own.
-/
import Derived.Test.YtfmpabgblbbcdaaGreatDoorLogicA
import Derived.Test.YtfmpabgblbbcdaaGreatDoorLogicB
import Derived.Test.YtfmpabgblbbcdaaGreatDoorLogicC
import Derived.Deep.Slices
import Derived.OpenShut
import Derived.Carry
import Derived.Test.YtfmpabgblbbcdaaGreatDoorSpecA
import Derived.Test.YtfmpabgblbbcdaaGreatDoorLogicD
import Derived.Test.YtfmpabgblbbcdaaGreatDoorProg
import Derived.KernelRfl
import Derived.Lib.LaidTab
import Derived.Lib.ItoaNum
import Derived.Test.YtfmpabgblbbcdaaGreatDoorWalkG
import Derived.Laws.IdiomStrings
import Derived.Laws.IdiomCopy
import Derived.Test.YtfmpabgblbbcdaaGreatDoorLogicE
import Derived.Test.YtfmpabgblbbcdaaGreatDoorShelf
import Derived.Test.YtfmpabgblbbcdaaGreatDoorWalkA
import Derived.Test.YtfmpabgblbbcdaaGreatDoorWalkB
import Derived.Test.YtfmpabgblbbcdaaGreatDoorWalkC
import Derived.Test.YtfmpabgblbbcdaaGreatDoorWalkD
import Derived.Test.YtfmpabgblbbcdaaGreatDoorWalkE
import Derived.Test.YtfmpabgblbbcdaaGreatDoorWalkF
import Derived.Test.YtfmpabgblbbcdaaGreatDoorRow
set_option linter.all false
set_option maxRecDepth 100000
set_option maxHeartbeats 8000000
namespace Go.Ab
variable [Tabs]
theorem FW_room (r : Option Nat) (n : Nat) : (FW r).room n := fun _ h => by simp [FW] at h
variable {c : Ctx} {Q : AExit → St → Prop} {s : St}
end Go.Ab
namespace Go.Ab
variable [Tabs]
section tok
variable {c : Ctx} {ops : Array Oper} {Q : AExit → St → Prop} {rest : List Oper} {s : St} {i : Nat}
variable {d : Option Tmp} {t : TypeId} {p : String} {af : Array Edge}
theorem sq_append_new {x y : Operand} {st xt et et' : TypeId} {sz bytes : Nat} {es xs : List (List AV)} (hd : dOK c.nt d = true)
    (hf : SlFact c.P st et sz bytes) (hk : c.P.underlying xt = some (.slice et')) (hx : Less (s.op x) (.slx sz es)) (hy : Less (s.op y) (.sl sz xs))
    (hb : (es.length + xs.length) * bytes ≤ 140737488355328) (h63 : es.length + xs.length ≤ 9223372036854775807)
    (k : SeqWP c ops Q (i + 1) rest (St.put { s with H := s.H ++ [.tok (es ++ xs).length] } d (.own s.H.length sz (es ++ xs)))) : SeqWP c ops Q i (⟨d, .call ⟨.builtin .append, #[x, y], #[st, xt]⟩, t, p, af, none⟩ :: rest) s := by
  rw [List.length_append] at k
  refine sq_op fun e ac hs next hn' => ?_
  have hu := hx e _ (hs.op x)
  have hv := hy e _ (hs.op y)
  have hu' := hu
  rw [Rep] at hu'
  obtain ⟨a, len, hv1, hlen, hnil, hsz, hc⟩ := hu'
  refine ⟨about_FW _ _ _ _ _, ?_⟩
  show Oper.uponIn (FW c.r) 0 c.P _ ac next (lift c Q) (((Oper.semAt c.r ac.eval ⟨d, .call ⟨.builtin .append, #[x, y], #[st, xt]⟩, t, p, af, none⟩)).run c.P e.w)
  rw [semAt_of (by intro c h; cases h)]
  have hex : (execOp ac.eval ⟨d, .call ⟨.builtin .append, #[x, y], #[st, xt]⟩, t, p, af, none⟩).run c.P e.w = ((Builtin.append_ #[st, xt] t #[.slice a len len, ac.eval y]).run c.P e.w).andThen fun v w'' => .ok (.value v) w'' := by
    simp [execOp, resolve, invoke, builtin, hv1]
  rw [hex]
  subst hlen
  rcases Nat.eq_zero_or_pos xs.length with h0 | hpos
  · have : xs = [] := List.length_eq_zero_iff.1 h0
    subst this
    rw [run_append_nothing' hf hk hv (Nat.le_refl _)]
    obtain ⟨e', hw, hG, le, hH, hμ, hs'⟩ := sim_tok hs es.length
    have := Rep.mono le _ (less_slx _ _ _ _ hu)
    rw [hv1, Rep] at this
    obtain ⟨a', len', cap', q1, q2, q3, q4, q5, q6⟩ := this
    cases q1
    show next _ e.w
    rw [← hw]
    refine hn' _ e' _ k (hs'.put hd ?_)
    rw [Rep, List.append_nil]
    refine ⟨a, es.length, es.length, rfl, rfl, Nat.le_refl _, fun h => hnil h, hsz, q6, by rw [hH]; simp, ⟨es.length, by unfold Env.T; rw [hH]; simp [tokOf], Nat.le_refl _⟩, fun _ ad _ hlt => absurd hlt (Nat.lt_irrefl _)⟩
  · obtain ⟨e1, hw1, hG1, le1, hH1, hμ1, hs1⟩ := sim_tok hs 0
    have hlast : e1.H[s.H.length]? = some (.tok 0) := by rw [hH1]; simp
    have hTj : e1.T s.H.length = some 0 := by unfold Env.T; rw [hlast]; rfl
    have hjl : s.H.length < e1.H.length := by rw [hH1]; simp
    have hv' : Rep e1 (.sl sz xs) (ac.eval y) := Rep.mono le1 _ hv
    have hc' : ∀ ad, a = some ad → (es.length ≠ 0 → ad.spot = none) ∧ ElemsAt e1 es ad.block ad.off := fun ad h => ⟨(hc ad h).1, ElemsAt.mono le1 es (hc ad h).2⟩
    obtain ⟨cap', cs, w', hrun, hw, hst, hle2, hcs, hcells, hall⟩ := run_append_row (P := c.P) (t := t) (cap := es.length) hs1.ok hf hk rfl hnil hsz hc' hv' (by omega) hb h63
    have hj : ({ s with H := s.H ++ [.tok 0] } : St).H[s.H.length]? = some (.tok 0) := by simp
    obtain ⟨hsim, hle'⟩ := hs1.grew (j := s.H.length) (b := e1.w.heap.size) (n := 0) (n' := es.length + xs.length) (g := (es.length + xs.length) * sz) (w' := w') hst hj (by omega) (.inr rfl) (by rw [hs1.ok.fresh _ (Nat.le_refl _)]; omega) (by simp [hw]) (by simp [hw])
      (fun b' hb' hne => by rw [hw, Array.getElem?_push, if_neg hne]) (fun m hmlt => by rw [hs1.ok.fresh _ (Nat.le_refl _)] at hmlt; omega) (fun b' hb' h => by simp [hw] at hb'; omega)
    rw [← hw1, hrun]
    have hset : (s.H ++ [AObj.tok 0]).set s.H.length (.tok (es.length + xs.length)) = s.H ++ [.tok (es.length + xs.length)] := by
      rw [List.set_append_right _ _ (Nat.le_refl _)]; simp
    have hsim' : Sim c { s with H := s.H ++ [.tok (es.length + xs.length)] } (e1.grew s.H.length e1.w.heap.size (es.length + xs.length) ((es.length + xs.length) * sz) w') ac := by
      rw [← hset]; exact hsim
    refine hn' _ _ _ k (hsim'.put hd ?_)
    rw [Rep]
    refine ⟨_, _, _, rfl, by simp, hle2, (fun h => by cases h), hall, fun ad had => ?_, by simpa [Env.grew] using hjl, ⟨es.length + xs.length, by rw [Env.grew_T hjl, if_pos rfl], by simp⟩, fun _ ad had hlt => ?_⟩
    · simp only [Option.some.injEq] at had; subst had
      refine ⟨fun _ => rfl, ElemsAt.flat.2 ?_⟩
      have hxt : Ext e1 (e1.row ((es.length + xs.length) * sz) w') := Env.row_ext hs1.ok hw hst
      have le3 : (e1.row ((es.length + xs.length) * sz) w').Le (e1.grew s.H.length e1.w.heap.size (es.length + xs.length) ((es.length + xs.length) * sz) w') := by
        have hT : ∀ i, (e1.row ((es.length + xs.length) * sz) w').T i = e1.T i := fun i => rfl
        refine ⟨by simp [Env.grew, Env.row], fun i hi ht => ?_, fun b' off ho => ⟨ho, rfl⟩, fun i m ht => ?_⟩
        · rw [hT] at ht
          have hij : i ≠ s.H.length := fun h => by subst h; rw [hTj] at ht; cases ht
          rw [Env.grew_T hjl, if_neg hij]; exact ⟨ht, fun _ hb => by simpa [Env.grew, hij, Env.row] using hb⟩
        · rw [hT] at ht
          by_cases hij : i = s.H.length
          · subst hij
            have : m = 0 := by rw [hTj] at ht; exact (Option.some.inj ht).symm
            subst this
            exact ⟨_, by rw [Env.grew_T hjl, if_pos rfl], by omega, fun h => by omega⟩
          · exact ⟨m, by rw [Env.grew_T hjl, if_neg hij]; exact ht, Nat.le_refl _, fun _ => ⟨by simp [Env.grew, hij, Env.row], fun b' cs t _ hh => ⟨rfl, cs, hh, rfl⟩⟩⟩
      exact CellsAt.mono le3 _ hcells
    · simp only [Option.some.injEq] at had; subst had
      exact ⟨by simp [Env.grew], by simp [Env.grew], cs, et, by simp [Env.grew, hw], by simp [hcs]⟩
end tok
section eff
variable {c : Ctx} {Q : AExit → St → Prop} {H : List AObj} {df : List ADef} {ρ : Operand → AV} {d : Option Tmp} {t : TypeId} {p : String} {af : Array Edge}
theorem eff_append_new {x y : Operand} {st xt et et' : TypeId} {sz bytes : Nat} {es xs : List (List AV)} (hd : dOK c.nt d = true)
    (hf : SlFact c.P st et sz bytes) (hk : c.P.underlying xt = some (.slice et')) (hx : Less (ρ x) (.slx sz es)) (hy : Less (ρ y) (.sl sz xs))
    (hb : (es.length + xs.length) * bytes ≤ 140737488355328) (h63 : es.length + xs.length ≤ 9223372036854775807) :
    Eff c Q ⟨d, .call ⟨.builtin .append, #[x, y], #[st, xt]⟩, t, p, af, none⟩ H df ρ (.own H.length sz (es ++ xs)) (H ++ [.tok (es ++ xs).length]) :=
  eff_of rfl fun s hH hop Q k => by
    subst hH
    exact sq_append_new hd hf hk (by rw [hop x (by simp [Op.operands, Call.operands])]; exact hx) (by rw [hop y (by simp [Op.operands, Call.operands])]; exact hy) hb h63 k
end eff
end Go.Ab
namespace Go.Ab
open Go.ChangeShapes Go.WideShapes
variable [Tabs]
theorem env0_ok {w : World} (h : Tabs.is w) (hb : ∀ b, Tabs.blk b → b < w.heap.size) : EnvOK (env0 w) :=
  ⟨fun b hb => by have hb' : w.heap.size ≤ b := hb
                  have : w.heap[b]? = none := by simpa using hb'
                  simp [env0, this], fun i o h => by simp [env0] at h, fun i j b hi => by simp [env0] at hi, fun i b hi => by simp [env0] at hi, h, fun b hk => ⟨hb b hk, fun i hi => by simp [env0] at hi⟩⟩
section
variable {H : Type} {enc : TypeId × Value → H} {P : Program} {w : World} {base : Nat} {spare : Nat → Bool} {held : Bool}
theorem trodAll_stays (hl : laidOutB P = true) {W W' : World} (hheap : ∀ b, b < W.heap.size → W'.heap[b]? = W.heap[b]?) {sp' : Nat → Bool} :
    ∀ {ts : List TypeId} {vs : List Value} {ds : List (DataW H)} {ps : List MemPlace}, (∀ t ∈ ts, P.readableRec t = true ∧ t < P.types.size) → DataW.TrodAll enc P W base (fun _ => true) true ts vs ds ps → (∀ p ∈ ps, p.block < W.heap.size) → (∀ p ∈ ps, sp' p.block = true) →
      DataW.TrodAll enc P W' base sp' true ts vs ds ps
  | [], _, _, _, _, h, _, _ => by
    obtain ⟨rfl, rfl, rfl⟩ := trodAll_nil h
    exact trodAll_mk0
  | t :: ts, _, _, _, ht, h, hlt, hs => by
    obtain ⟨v, vs1, d, ds1, a, b, rfl, rfl, rfl, h1, h2⟩ := trodAll_cons h
    refine trodAll_cons_mk (WideElems.Trod_stays hl (ht t (by simp)).1 (ht t (by simp)).2 h1 (fun p hp => ?_) (fun p hp => hs p (by simp [hp]))) (trodAll_stays hl hheap (fun u hu => ht u (List.mem_cons_of_mem _ hu)) h2 (fun p hp => hlt p (by simp [hp])) (fun p hp => hs p (by simp [hp])))
    have hb := hheap p.block (hlt p (by simp [hp]))
    cases p with
    | cell b o => exact cell?_of_heap hb
    | map b => exact hb
/-- **What a law's row asks of a call that returns true and leaves what it met.** -/
theorem post_true {f : Func} {s : ChangeSpec} {W W' : World} {args : Array Value} {ds gs : List (DataW H)} {before : List MemPlace} {tb : TypeId} (hl : laidOutB P = true) (hread : ∀ t ∈ f.params.toList, P.readableRec t = true ∧ t < P.types.size)
    (hres : f.resultTypes = #[tb]) (htb : P.underlying tb = some .bool) (hvars : s.vars = []) (hspec : (s.fn H ds).results = [.lit (.bool true)] ∧ (s.fn H ds).args = ds ∧ (s.fn H ds).vars = [])
    (hW : DataW.Whole enc P f.params.toList s.vars false W args.toList ds gs before) (hheap : ∀ b, b < W.heap.size → W'.heap[b]? = W.heap[b]?) (hst : Still W W') :
    s.post enc P f false true false false W args (.bool true) W' := by
  have hlt := hW.lt
  have hW0 := hW
  obtain ⟨p, q, h1, h2, rfl, _, _⟩ := hW
  rw [hvars] at h2
  obtain ⟨rfl, rfl⟩ := trodVars_none h2
  simp only [List.append_nil] at hlt
  obtain ⟨e1, e2, e3⟩ := hspec
  refine ⟨ds, [], p ++ [], [], p, [], hW0, ?_, ?_, ?_, ?_, fun h => by cases h⟩
  · rw [List.append_nil, e1, hres]
    exact trodAll_cons_mk (RowKit.shut_bool htb _) trodAll_mk0
  · rw [List.append_nil, e2]
    exact trodAll_stays hl hheap hread h1 hlt (fun p hp => by simpa using hlt p hp)
  · rw [List.append_nil, e3, hvars]; rfl
  · refine ⟨hst.1, hst.2, fun i hi => ?_⟩
    rw [hheap i hi]
    split <;> simp_all
theorem APure.law {f : FuncId} {args : List AV} {W : World} {vs : Array Value} (hc : APure P f args (.raw (.bool true))) (ht : Tabs.is W) (hb : ∀ b, Tabs.blk b → b < W.heap.size) (hr : RepL (env0 W) args vs.toList) :
    Calls P f vs W fun x W' => x = .returned (.bool true) ∧ (∀ b, b < W.heap.size → W'.heap[b]? = W.heap[b]?) ∧ Still W W' := by
  refine ((hc (env0 W) vs (env0_ok ht hb) hr).calls (fun k => FW_room none k)).mono ?_
  rintro x w' ⟨u, e', rfl, rfl, hx, hu⟩
  rw [Rep] at hu; subst hu
  exact ⟨rfl, hx.heap, hx.still⟩
end
end Go.Ab
namespace Hd
open Ni (inn)
theorem mnL_le {l : List Int} {x : Int} (h : x ∈ l) : mnL l ≤ x := by
  cases l with
  | nil => cases h
  | cons y l =>
    obtain ⟨h1, h2, _⟩ := fmin_spec l y
    rcases List.mem_cons.1 h with rfl | h
    · exact h1
    · exact h2 x h
end Hd
namespace St
open Ni (inn)
open Hd (every getD_at mem_every)
def handsK (p : Ply) (x : Scn) (k : Nat) : Int := max 0 (x.knocks - 1) + ((x.moved.take k).map fun f => (fg p f).hands).sum
theorem handsK_0 (p : Ply) (x : Scn) : handsK p x 0 = max 0 (x.knocks - 1) := by simp [handsK]
theorem handsK_succ {p : Ply} {x : Scn} {k : Nat} (h : k < x.moved.length) : handsK p x (k + 1) = handsK p x k + (fg p x.moved[k]).hands := by
  unfold handsK; rw [List.take_succ_eq_append_getElem h, List.map_append, List.sum_append]; simp; omega
theorem handsK_all (p : Ply) (x : Scn) : handsK p x x.moved.length = hands p x := by unfold handsK hands; rw [List.take_length]
end St
namespace St
open Ni (inn)
open Hd (every getD_at mem_every every_rising)
theorem okL_inj {b : Bool} {p : Ply} {x : Scn} {l : List Int} (h : okL b p x l = true) : inj l = true := by
  unfold okL okI plc at h; unfold inj
  simp only [Bool.and_eq_true, Bool.not_eq_true', decide_eq_false_iff_not] at h ⊢
  exact fun q => h.1.1 (.inr q)
theorem arr_filter (b : Bool) (p : Ply) (x : Scn) : arr b p x = (dfs inj p.hts.length x.rest.length []).filter (suits b p x) := by
  unfold arr
  rw [dfs_filter (ok := inj) (fun l h => okL_inj h)]
  exact List.filter_congr fun l _ => suits_good b p x l
def stands (p : Ply) (x : Scn) (l : List Int) : Bool := decide (∀ i, i < l.length → ¬ (l.getD i 0 ∈ l.take i ∨ l.getD i 0 ∈ x.taken ∨ ((rf p x i).side = 1 ∧ p.left ≤ l.getD i 0) ∨ ((rf p x i).side = 2 ∧ l.getD i 0 < p.left)))
def ranks (p : Ply) (x : Scn) (l : List Int) : Bool := decide (∀ i, i < l.length → ht p (l.getD i 0) ≤ (rf p x i).rank ∧ ∀ k, k < l.length → clash p x l i k = false)
theorem rf_B {p : Ply} (B : PlB p) {x : Scn} (X : ScB p x) {i : Nat} (hi : i < x.rest.length) : (1 ≤ (rf p x i).side ∧ (rf p x i).side ≤ 3) ∧ (1 ≤ (rf p x i).rank ∧ (rf p x i).rank ≤ 9) := by
  have h := (rising_iff.1 X.rs).2 x.rest[i] (List.getElem_mem hi)
  unfold rf; rw [getD_at hi]
  exact ⟨(fg_B B h.1 h.2).1, (fg_B B h.1 h.2).2.1⟩
theorem plc_stands {p : Ply} (B : PlB p) {x : Scn} (X : ScB p x) {l : List Int} {i : Nat} (hi : i < x.rest.length) :
    plc p x l i = true ↔ ¬ (l.getD i 0 ∈ l.take i ∨ l.getD i 0 ∈ x.taken ∨ ((rf p x i).side = 1 ∧ p.left ≤ l.getD i 0) ∨ ((rf p x i).side = 2 ∧ l.getD i 0 < p.left)) := by
  have hb := (rf_B B X hi).1
  unfold plc lf
  rw [Bool.and_eq_true, Bool.not_eq_true', decide_eq_false_iff_not, Bool.or_eq_true, decide_eq_true_eq, beq_iff_eq, decide_eq_decide]
  constructor
  · rintro ⟨h1, h2⟩ h3
    rcases h3 with h3 | h3 | h3 | h3
    · exact h1 (.inr h3)
    · exact h1 (.inl h3)
    · rcases h2 with h2 | h2 <;> omega
    · rcases h2 with h2 | h2 <;> omega
  · intro h
    refine ⟨fun q => h (by rcases q with q | q; exact .inr (.inl q); exact .inl q), ?_⟩
    have h3 : ¬ ((rf p x i).side = 1 ∧ p.left ≤ l.getD i 0) := fun q => h (.inr (.inr (.inl q)))
    have h4 : ¬ ((rf p x i).side = 2 ∧ l.getD i 0 < p.left) := fun q => h (.inr (.inr (.inr q)))
    omega
theorem clash_self (p : Ply) (x : Scn) (l : List Int) (i : Nat) : clash p x l i i = false := by unfold clash; simp
theorem suits_stands {p : Ply} (B : PlB p) {x : Scn} (X : ScB p x) {l : List Int} (hl : l.length = x.rest.length) : suits false p x l = stands p x l := by
  unfold suits stands
  rw [decide_eq_decide]
  refine forall_congr' fun i => forall_congr' fun hi => ?_
  unfold okI; rw [← plc_stands B X (by omega)]; simp
theorem suits_ranks {p : Ply} (B : PlB p) {x : Scn} (X : ScB p x) {l : List Int} (hl : l.length = x.rest.length) : suits true p x l = (ranks p x l && stands p x l) := by
  rw [← suits_stands B X hl]
  unfold suits ranks
  rw [Bool.eq_iff_iff, Bool.and_eq_true, decide_eq_true_eq, decide_eq_true_eq, decide_eq_true_eq]
  unfold okI low rkd
  simp only [Bool.and_eq_true, Bool.or_eq_true, decide_eq_true_eq, Bool.not_true, Bool.not_false, true_or, and_true, Bool.false_eq_true, false_or]
  constructor
  · intro h
    refine ⟨fun i hi => ⟨(h i hi).2.1, fun k hk => ?_⟩, fun i hi => (h i hi).1⟩
    rcases Nat.lt_trichotomy i k with q | q | q
    · exact ((h k hk).2.2 i q).1
    · subst q; exact clash_self _ _ _ _
    · exact ((h i hi).2.2 k q).2
  · rintro ⟨h1, h2⟩ i hi
    exact ⟨h2 i hi, (h1 i hi).1, fun j hj => ⟨(h1 j (by omega)).2 i hi, (h1 i hi).2 j (by omega)⟩⟩
end St
namespace St
open Hd (mnL mnL_le mnL_mem)
section path
variable {α : Type} (A : Nat → List α) (s : Nat → α → α → Int)
def cost : Nat → List α → Int
  | n, a :: b :: r => s n a b + cost (n + 1) (b :: r)
  | _, _ => 0
def valid : Nat → List α → Prop
  | _, [] => True
  | n, a :: r => a ∈ A n ∧ valid (n + 1) r
variable {A s}
theorem lef_le : ∀ {d n : Nat} {a : α} {r : List α}, r.length = d → valid A (n + 1) r → lefF A s d n a ≤ cost s n (a :: r)
  | 0, n, a, [], _, _ => by simp [lefF, cost]
  | d + 1, n, a, b :: r, hl, hv => by
    have ih := lef_le (d := d) (n := n + 1) (a := b) (r := r) (by simpa using hl) hv.2
    have h1 : mnL ((A (n + 1)).map fun b => lefF A s d (n + 1) b + s n a b) ≤ lefF A s d (n + 1) b + s n a b := mnL_le (List.mem_map.2 ⟨b, hv.1, rfl⟩)
    simp only [lefF, cost]; omega
theorem lef_is (hA : ∀ n, A n ≠ []) : ∀ (d n : Nat) (a : α), ∃ r, r.length = d ∧ valid A (n + 1) r ∧ cost s n (a :: r) = lefF A s d n a
  | 0, n, a => ⟨[], rfl, trivial, by simp [lefF, cost]⟩
  | d + 1, n, a => by
    have h1 := mnL_mem (l := (A (n + 1)).map fun b => lefF A s d (n + 1) b + s n a b) (by simpa using List.length_pos_iff.2 (hA (n + 1)))
    obtain ⟨b, hb, e⟩ := List.mem_map.1 h1
    obtain ⟨r, h2, h3, h4⟩ := lef_is hA d (n + 1) b
    exact ⟨b :: r, by simp [h2], ⟨hb, h3⟩, by simp only [lefF, cost]; omega⟩
theorem valid_app : ∀ {n : Nat} {l m : List α}, valid A n (l ++ m) ↔ valid A n l ∧ valid A (n + l.length) m
  | n, [], m => by simp [valid]
  | n, a :: l, m => by
    simp only [List.cons_append, valid, List.length_cons, valid_app (n := n + 1) (l := l), and_assoc]
    rw [show n + 1 + l.length = n + (l.length + 1) by omega]
theorem cost_app : ∀ {n : Nat} {l : List α} {a : α} {m : List α}, cost s n (l ++ a :: m) = cost s n (l ++ [a]) + cost s (n + l.length) (a :: m)
  | n, [], a, m => by simp [cost]
  | n, [b], a, m => by simp [cost]
  | n, b :: c :: l, a, m => by
    have ih := cost_app (n := n + 1) (l := c :: l) (a := a) (m := m)
    simp only [List.cons_append, cost, List.length_cons] at ih ⊢
    rw [ih, show n + 1 + (l.length + 1) = n + (l.length + 1 + 1) by omega]; omega
theorem bef_le : ∀ {n : Nat} {l : List α} {a : α}, l.length = n → valid A 0 l → befF A s n a ≤ cost s 0 (l ++ [a])
  | 0, [], a, _, _ => by simp [befF, cost]
  | n + 1, l, a, hl, hv => by
    obtain ⟨l', b, rfl⟩ : ∃ l' b, l = l' ++ [b] := ⟨l.dropLast, l.getLast (by intro h; simp [h] at hl), (List.dropLast_concat_getLast _).symm⟩
    have hl' : l'.length = n := by simpa using hl
    have hv' := valid_app.1 hv
    have ih := bef_le (n := n) (l := l') (a := b) hl' hv'.1
    have hb : b ∈ A n := by have := hv'.2.1; rwa [Nat.zero_add, hl'] at this
    have h1 : mnL ((A n).map fun c => befF A s n c + s n c a) ≤ befF A s n b + s n b a := mnL_le (List.mem_map.2 ⟨b, hb, rfl⟩)
    have e := cost_app (s := s) (n := 0) (l := l') (a := b) (m := [a])
    simp only [cost, Nat.zero_add, hl', Int.add_zero] at e
    rw [List.append_assoc, List.singleton_append, e]
    simp only [befF]; omega
theorem bef_is (hA : ∀ n, A n ≠ []) : ∀ (n : Nat) (a : α), ∃ l, l.length = n ∧ valid A 0 l ∧ cost s 0 (l ++ [a]) = befF A s n a
  | 0, a => ⟨[], rfl, trivial, by simp [befF, cost]⟩
  | n + 1, a => by
    have h1 := mnL_mem (l := (A n).map fun c => befF A s n c + s n c a) (by simpa using List.length_pos_iff.2 (hA n))
    obtain ⟨b, hb, e⟩ := List.mem_map.1 h1
    obtain ⟨l, h2, h3, h4⟩ := bef_is hA n b
    refine ⟨l ++ [b], by simp [h2], valid_app.2 ⟨h3, ⟨by rwa [Nat.zero_add, h2], trivial⟩⟩, ?_⟩
    have e2 := cost_app (s := s) (n := 0) (l := l) (a := b) (m := [a])
    simp only [cost, Nat.zero_add, h2, Int.add_zero] at e2
    rw [List.append_assoc, List.singleton_append, e2]
    simp only [befF]; omega
def opt (A : Nat → List α) (s : Nat → α → α → Int) (last : Nat) : Int := mnL ((A 0).map (lefF A s last 0))
theorem opt_le {last : Nat} {l : List α} (hl : l.length = last + 1) (hv : valid A 0 l) : opt A s last ≤ cost s 0 l := by
  cases l with
  | nil => simp at hl
  | cons a r =>
    have h1 := lef_le (s := s) (d := last) (n := 0) (a := a) (r := r) (by simpa using hl) hv.2
    have h2 : opt A s last ≤ lefF A s last 0 a := mnL_le (List.mem_map.2 ⟨a, hv.1, rfl⟩)
    omega
theorem opt_is (hA : ∀ n, A n ≠ []) (last : Nat) : ∃ l, l.length = last + 1 ∧ valid A 0 l ∧ cost s 0 l = opt A s last := by
  have h1 := mnL_mem (l := (A 0).map (lefF A s last 0)) (by simpa using List.length_pos_iff.2 (hA 0))
  obtain ⟨a, ha, e⟩ := List.mem_map.1 h1
  obtain ⟨r, h2, h3, h4⟩ := lef_is (s := s) hA last 0 a
  exact ⟨a :: r, by simp [h2], ⟨ha, h3⟩, by rw [h4, e]; rfl⟩
def thru (A : Nat → List α) (s : Nat → α → α → Int) (last n : Nat) (a : α) : Int := befF A s n a + lefF A s (last - n) n a
theorem thru_le {last n : Nat} (hn : n ≤ last) {l : List α} (hl : l.length = last + 1) (hv : valid A 0 l) : thru A s last n (l[n]'(by omega)) ≤ cost s 0 l := by
  have e : l = l.take n ++ l[n]'(by omega) :: l.drop (n + 1) := by rw [← List.drop_eq_getElem_cons, List.take_append_drop]
  have hlt : (l.take n).length = n := by rw [List.length_take]; omega
  have hv' := hv
  rw [e] at hv'
  have hv2 := valid_app.1 hv'
  have h1 := bef_le (s := s) (n := n) (a := l[n]'(by omega)) hlt hv2.1
  have h2 := lef_le (s := s) (d := last - n) (n := n) (a := l[n]'(by omega)) (r := l.drop (n + 1)) (by rw [List.length_drop]; omega) (by have := hv2.2.2; rwa [Nat.zero_add, hlt] at this)
  have h3 := cost_app (s := s) (n := 0) (l := l.take n) (a := l[n]'(by omega)) (m := l.drop (n + 1))
  rw [← e, Nat.zero_add, hlt] at h3
  unfold thru; omega
theorem thru_is (hA : ∀ n, A n ≠ []) {last n : Nat} (hn : n ≤ last) {a : α} (ha : a ∈ A n) : ∃ l : List α, ∃ hl : l.length = last + 1, valid A 0 l ∧ l[n]'(by omega) = a ∧ cost s 0 l = thru A s last n a := by
  obtain ⟨l, h1, h2, h3⟩ := bef_is (s := s) hA n a
  obtain ⟨r, h4, h5, h6⟩ := lef_is (s := s) hA (last - n) n a
  have h7 := cost_app (s := s) (n := 0) (l := l) (a := a) (m := r)
  refine ⟨l ++ a :: r, by simp; omega, valid_app.2 ⟨h2, by rw [Nat.zero_add, h1]; exact ⟨ha, h5⟩⟩, ?_, ?_⟩
  · rw [List.getElem_append_right (by omega)]; simp [h1]
  · rw [h7, h3, Nat.zero_add, h1, h6]; rfl
theorem opt_thru (hA : ∀ n, A n ≠ []) {last n : Nat} (hn : n ≤ last) : mnL ((A n).map (thru A s last n)) = opt A s last := by
  have hne : 0 < ((A n).map (thru A s last n)).length := by simpa using List.length_pos_iff.2 (hA n)
  apply Int.le_antisymm
  · obtain ⟨l, h1, h2, h3⟩ := opt_is (s := s) hA last
    have h4 := thru_le (s := s) hn h1 h2
    have hm : l[n]'(by omega) ∈ A n := by
      have e : l = l.take n ++ l[n]'(by omega) :: l.drop (n + 1) := by rw [← List.drop_eq_getElem_cons, List.take_append_drop]
      rw [e] at h2
      have := (valid_app.1 h2).2.1
      rwa [Nat.zero_add, List.length_take, Nat.min_eq_left (by omega)] at this
    have h5 : mnL ((A n).map (thru A s last n)) ≤ thru A s last n (l[n]'(by omega)) := mnL_le (List.mem_map.2 ⟨_, hm, rfl⟩)
    omega
  · obtain ⟨a, ha, e⟩ := List.mem_map.1 (mnL_mem hne)
    obtain ⟨l, h1, h2, _, h3⟩ := thru_is (s := s) hA hn ha
    have := opt_le (s := s) h1 h2
    omega
end path
end St
namespace Go.Proofs.YtfmpabgblbbcdaaGreatDoor
open Go Go.Ab Ni St
open Hd hiding sz
abbrev C (c : UInt8) : AV := .raw (.int .u8 c.toNat)
theorem rin_pure (n lo hi : Int) : APure Tryz.prog 77 [I n, I lo, I hi] (B (inn n lo hi)) := by
  refine ap Tryz.func77 (fun e0 he0 => ?_)
  refine wz 5 ?_
  refine sz 10 (fun g1 g1' => ?_) (fun g1 g1' => ?_)
  ·refine wz 5 ?_
   exact rz rfl (Less.eq (by simp [inn, *]))
  refine wz 5 ?_
  exact rz rfl (Less.eq (by simp [inn, *]))
end Go.Proofs.YtfmpabgblbbcdaaGreatDoor
namespace Go.Proofs.YtfmpabgblbbcdaaGreatDoor
open Go Go.Ab Ni St
open Hd hiding sz
theorem xwhere_b1 {p : Ply} (hh : p.hts.length ≤ 1000000) (hf : p.figs.length ≤ 1000000) (hs : p.scs.length ≤ 1000000) (hx : ∀ x ∈ p.scs, x.moved.length ≤ 1000000 ∧ x.rest.length ≤ 1000000 ∧ x.taken.length ≤ 1000000) (n g : Int) (h1 : plOK p = false) : APure Tryz.prog 25 [plA p, I n, I g] (.tup [ints [], I 2]) := by
  refine ap Tryz.func25 (fun e0 he0 => ?_)
  refine vz 3 ?_
  refine sq_nil ?_
  refine aw_seq ?_
  refine aw_seq ?_
  have hpl := isplay_pure p hh hf hs hx
  rw [h1] at hpl
  refine wz 1 ?_
  refine kz az (hpl) ?_
  refine wz 10 ?_
  exact retQ_pure (v := .tup [.raw (.slice none 0 0), .raw _]) rfl rfl (less_tup ⟨less_nil 1, jz, trivial⟩)
theorem xwhere_b2 {p : Ply} (hh : p.hts.length ≤ 1000000) (hf : p.figs.length ≤ 1000000) (hs : p.scs.length ≤ 1000000) (hx : ∀ x ∈ p.scs, x.moved.length ≤ 1000000 ∧ x.rest.length ≤ 1000000 ∧ x.taken.length ≤ 1000000) (n g : Int) (h1 : plOK p = true) (h2 : scIn p n = false) : APure Tryz.prog 25 [plA p, I n, I g] (.tup [ints [], I 2]) := by
  refine ap Tryz.func25 (fun e0 he0 => ?_)
  refine vz 3 ?_
  refine sq_nil ?_
  refine aw_seq ?_
  refine aw_seq ?_
  have hpl := isplay_pure p hh hf hs hx
  rw [h1] at hpl
  have hsc := isscene_pure p n hs
  rw [h2] at hsc
  refine wz 1 ?_
  refine kz az (hpl) ?_
  refine wz 4 ?_
  refine ky az (hsc) ?_
  refine wz 5 ?_
  exact retQ_pure (v := .tup [.raw (.slice none 0 0), .raw _]) rfl rfl (less_tup ⟨less_nil 1, jz, trivial⟩)
theorem xwhere_bad {p : Ply} (hh : p.hts.length ≤ 1000000) (hf : p.figs.length ≤ 1000000) (hs : p.scs.length ≤ 1000000) (hx : ∀ x ∈ p.scs, x.moved.length ≤ 1000000 ∧ x.rest.length ≤ 1000000 ∧ x.taken.length ≤ 1000000) (n g : Int) (ho : (plOK p && scIn p n) = false) : APure Tryz.prog 25 [plA p, I n, I g] (.tup [ints [], I 2]) := by
  cases h1 : plOK p with
  | false => exact xwhere_b1 hh hf hs hx n g h1
  | true => exact xwhere_b2 hh hf hs hx n g h1 (by rw [h1] at ho; simpa using ho)
theorem xwhere_b3 {p : Ply} (hh : p.hts.length ≤ 1000000) (hf : p.figs.length ≤ 1000000) (hs : p.scs.length ≤ 1000000) (hx : ∀ x ∈ p.scs, x.moved.length ≤ 1000000 ∧ x.rest.length ≤ 1000000 ∧ x.taken.length ≤ 1000000) {k : Nat} (hk : k < p.scs.length) (h1 : plOK p = true) {g : Int} (h3 : ixQ (fun x => decide (g = x)) (sc p k).rest = -1) : APure Tryz.prog 25 [plA p, I k, I g] (.tup [ints [], I 2]) := by
  refine ap Tryz.func25 (fun e0 he0 => ?_)
  refine vz 3 ?_
  refine sq_nil ?_
  refine aw_seq ?_
  refine aw_seq ?_
  have hpl := isplay_pure p hh hf hs hx
  rw [h1] at hpl
  have hsc := isscene_pure p (k : Int) hs
  rw [scIn_nat hk] at hsc
  have gP := plOK_B h1
  have gX := sc_B gP hk
  have hr4 := gX.r4
  have esc := sc_at hk
  have hix := index_pure (sc p k).rest g (by omega)
  rw [h3] at hix
  refine wz 1 ?_
  refine kz az (hpl) ?_
  refine wz 4 ?_
  refine ky az (hsc) ?_
  refine wz 6 ?_
  refine sq_ev rfl (ev_less (ev_index_map (k := k) (xs := p.scs) sl24.h jz jz rfl hk) (Less.eq (b := .iptr (scC (sc p k))) (by rw [esc]))) ?_
  refine wz 3 ?_
  refine kz az (hix) ?_
  refine wz 6 ?_
  exact retQ_pure (v := .tup [.raw (.slice none 0 0), .raw _]) rfl rfl (less_tup ⟨less_nil 1, jz, trivial⟩)
end Go.Proofs.YtfmpabgblbbcdaaGreatDoor
namespace Go.Proofs.YtfmpabgblbbcdaaGreatDoor
open Go Go.Ab Ni St
open Hd hiding sz
instance en19 : EnT Tryz.prog 19 := ⟨Ent.of Tryz.func19 (by kernel_rfl) rfl⟩
instance en22 : EnT Tryz.prog 22 := ⟨Ent.of Tryz.func22 (by kernel_rfl) rfl⟩
instance en26 : EnT Tryz.prog 26 := ⟨Ent.of Tryz.func26 (by kernel_rfl) rfl⟩
instance en27 : EnT Tryz.prog 27 := ⟨Ent.of Tryz.func27 (by kernel_rfl) rfl⟩
instance en77 : EnT Tryz.prog 77 := ⟨Ent.of Tryz.func77 (by kernel_rfl) rfl⟩
instance en78 : EnT Tryz.prog 78 := ⟨Ent.of Tryz.func78 (by kernel_rfl) rfl⟩
instance en95 : EnT Tryz.prog 95 := ⟨Ent.of Tryz.func95 (by kernel_rfl) rfl⟩
theorem all_of {α : Type} {q : α → Bool} {l : List α} (h : ∀ j, (hj : j < l.length) → q l[j] = true) : l.all q = true := List.all_eq_true.2 fun x hx => by obtain ⟨j, hj, rfl⟩ := List.getElem_of_mem hx; exact h j hj
theorem all_bad {α : Type} {q : α → Bool} {l : List α} {i : Nat} (hi : i < l.length) (h : q l[i] = false) : l.all q = false := by rw [List.all_eq_false]; exact ⟨_, List.getElem_mem hi, by rw [h]; simp⟩
theorem all_sym (a b : List Int) : (a.all fun n => !decide (n ∈ b)) = b.all fun n => !decide (n ∈ a) := by
  rw [Bool.eq_iff_iff, List.all_eq_true, List.all_eq_true]
  simp only [Bool.not_eq_true', decide_eq_false_iff_not]
  exact ⟨fun h n hn hm => h n hm hn, fun h n hn hm => h n hm hn⟩
def shX (x : Scn) : Bool := decide (x.moved.length ≤ 10) && decide (x.rest.length ≤ 10) && decide (x.taken.length ≤ 10)
def shB (p : Ply) : Bool := decide (p.hts.length ≤ 10) && decide (p.figs.length ≤ 8) && decide (p.scs.length ≤ 7) && decide (∀ i, (hi : i < p.scs.length) → i < 8 → shX p.scs[i] = true)
theorem shB_row {p : Ply} {i : Nat} (hi : i < p.scs.length) (h8 : i < 8) (h : shX p.scs[i] = false) : shB p = false := by
  unfold shB
  rw [decide_eq_false (p := ∀ i, (hi : i < p.scs.length) → i < 8 → shX p.scs[i] = true) (fun q => by rw [q i hi h8] at h; cases h)]; simp
theorem shB_fin {p : Ply} (h : ∀ i, (hi : i < p.scs.length) → i < 8 → shX p.scs[i] = true) : shB p = (decide (p.hts.length ≤ 10) && decide (p.figs.length ≤ 8) && decide (p.scs.length ≤ 7)) := by
  unfold shB; rw [decide_eq_true h, Bool.and_true]
theorem shB_len {p : Ply} (h : shB p = true) : p.hts.length ≤ 1000000 ∧ p.figs.length ≤ 1000000 ∧ p.scs.length ≤ 1000000 ∧ ∀ x ∈ p.scs, x.moved.length ≤ 1000000 ∧ x.rest.length ≤ 1000000 ∧ x.taken.length ≤ 1000000 := by
  unfold shB at h
  simp only [Bool.and_eq_true, decide_eq_true_eq] at h
  refine ⟨by omega, by omega, by omega, fun x hx => ?_⟩
  obtain ⟨i, hi, rfl⟩ := List.getElem_of_mem hx
  have := h.2 i hi (by omega)
  unfold shX at this
  simp only [Bool.and_eq_true, decide_eq_true_eq] at this
  omega
theorem has_pure (l : List Int) (n : Int) (hl : l.length ≤ 1000000) : APure Tryz.prog 27 [ints l, I n] (B (decide (n ∈ l))) := by
  refine ap Tryz.func27 (fun e0 he0 => ?_)
  refine wz 2 ?_
  refine aw_loopk (ι := { k : Nat // k ≤ l.length ∧ ∀ i, (hi : i < l.length) → i < k → l[i] ≠ n }) [0, 1] (fun i => [(5, I i.1)]) (fun H i => H) (fun i => l.length - i.1) (⟨0, Nat.zero_le _, by omega⟩) ⟨jz, jz, jz, trivial⟩ rfl ?_
  rintro ⟨k, hk, hok⟩
  refine nz ?_
  refine wz 4 ?_
  refine iz (fun c_9 c_9' => ?_) (fun c_9 c_9' => ?_)
  ·have hkL : k < l.length := by omega
   refine wz 6 ?_
   refine iz (fun c_17 c_17' => ?_) (fun c_17 c_17' => ?_)
   ·have hmem : n ∈ l := by have h5 := of_decide_eq_true c_17; exact h5 ▸ List.getElem_mem hkL
    refine wz 1 ?_
    exact rz rfl (Less.eq (by rw [decide_eq_true hmem]))
   refine wz 3 ?_
   exact ⟨⟨k + 1, by omega, fun i hi h => (by by_cases e : i = k; (subst e; simpa using c_17); exact hok i hi (by omega))⟩, by simp only; omega, Sub.slots ⟨jz, jz, jz, trivial⟩⟩
  obtain rfl : k = l.length := by omega
  have hno : ¬ n ∈ l := fun h => by obtain ⟨i, hi, h6⟩ := List.getElem_of_mem h; exact hok i hi hi h6
  refine wz 1 ?_
  exact rz rfl (Less.eq (by rw [decide_eq_false hno]))
theorem rrising_pure (l : List Int) (n : Nat) (hl : l.length ≤ 1000000) (hn : n ≤ 1000000) : APure Tryz.prog 95 [ints l, I n] (B (rising l n)) := by
  refine ap Tryz.func95 (fun e0 he0 => ?_)
  refine wz 2 ?_
  refine aw_loopk (ι := { k : Nat // k ≤ l.length ∧ ∀ i, (hi : i < l.length) → i < k → (0 ≤ l[i] ∧ l[i] < n) ∧ (0 < i → l[i - 1] < l[i]) }) [0, 1] (fun i => [(5, I i.1)]) (fun H i => H) (fun i => l.length - i.1) (⟨0, Nat.zero_le _, by omega⟩) ⟨jz, jz, jz, trivial⟩ rfl ?_
  rintro ⟨k, hk1, hok⟩
  refine nz ?_
  refine wz 4 ?_
  refine iz (fun c_9 c_9' => ?_) (fun c_9 c_9' => ?_)
  ·have hkl : k < l.length := by omega
   have hin : inn l[k] 0 ((n : Int) - 1) = true ↔ 0 ≤ l[k] ∧ l[k] ≤ (n : Int) - 1 := by unfold inn; simp
   refine wz 0 ?_
   refine aw_draw 24 mo (by kernel_rfl) ?_
   refine dz 6 ?_
   refine dkz az (rin_pure _ _ _) ?_
   refine dz 2 ?_
   refine dsz 20 (fun g4_8 g4_8' => ?_) (fun g4_8 g4_8' => ?_)
   ·have hb0 : ¬ (0 ≤ l[k] ∧ l[k] ≤ (n : Int) - 1) := fun q => by rw [hin.2 q] at g4_8; simp at g4_8
    have hno : rising l n = false := rising_no hkl (fun q => hb0 (by omega))
    refine dz 15 ?_
    refine wz 2 ?_
    exact rz rfl (Less.eq (by rw [hno]))
   have hb1 : 0 ≤ l[k] ∧ l[k] ≤ (n : Int) - 1 := hin.1 (by simpa using g4_8)
   refine dz 3 ?_
   refine dsz 23 (fun g4_11 g4_11' => ?_) (fun g4_11 g4_11' => ?_)
   ·refine dz 7 ?_
    refine dr_yes rfl rfl (less_b g4_11) rfl (ev_index_map (k := k - 1) sl22.h jz jz (by omega) (by omega)) ?_
    refine dz 4 ?_
    refine wz 0 ?_
    refine iz (fun c_35 c_35' => ?_) (fun c_35 c_35' => ?_)
    ·have hno : rising l n = false := rising_no hkl (fun q => by have h5 := q.2 (by omega); have h6 := of_decide_eq_true c_35; omega)
     refine wz 1 ?_
     exact rz rfl (Less.eq (by rw [hno]))
    have hst : (0 ≤ l[k] ∧ l[k] < n) ∧ (0 < k → l[k - 1] < l[k]) := ⟨by omega, fun q => by have := of_decide_eq_false c_35; omega⟩
    refine wz 3 ?_
    exact ⟨⟨k + 1, by omega, fun i hi q => by rcases Nat.lt_or_ge i k with q2 | q2; exact hok i hi q2; (obtain rfl : i = k := by omega); exact hst⟩, by simp only; omega, Sub.slots ⟨jz, jz, jz, trivial⟩⟩
   have hst : (0 ≤ l[k] ∧ l[k] < n) ∧ (0 < k → l[k - 1] < l[k]) := ⟨by omega, fun q => by omega⟩
   refine dz 12 ?_
   refine wz 4 ?_
   exact ⟨⟨k + 1, by omega, fun i hi q => by rcases Nat.lt_or_ge i k with q2 | q2; exact hok i hi q2; (obtain rfl : i = k := by omega); exact hst⟩, by simp only; omega, Sub.slots ⟨jz, jz, jz, trivial⟩⟩
  obtain rfl : k = l.length := by omega
  have hall := rising_yes fun i hi => hok i hi hi
  refine wz 1 ?_
  exact rz rfl (Less.eq (by rw [hall]))
theorem rscene_pure (p : Ply) (x : Scn) (h1 : x.moved.length ≤ 1000000) (h2 : x.rest.length ≤ 1000000) (h3 : x.taken.length ≤ 1000000) (hh : p.hts.length ≤ 1000000) (hf : p.figs.length ≤ 1000000) : APure Tryz.prog 78 [plA p, .agg (scC x)] (B (scOK p x)) := by
  refine ap Tryz.func78 (fun e0 he0 => ?_)
  refine wz 8 ?_
  refine kz az (rrising_pure x.moved p.figs.length h1 hf) ?_
  refine wz 2 ?_
  refine sz 13 (fun g1_7 g1_7' => ?_) (fun g1_7 g1_7' => ?_)
  ·refine wz 31 ?_
   exact rz rfl (Less.eq (congrArg B (by unfold scOK; simp [*])))
  refine wz 5 ?_
  refine ky az (rrising_pure x.rest p.figs.length h2 hf) ?_
  refine wz 3 ?_
  refine sz 22 (fun g1_16 g1_16' => ?_) (fun g1_16 g1_16' => ?_)
  ·refine wz 22 ?_
   exact rz rfl (Less.eq (congrArg B (by unfold scOK; simp [*])))
  refine wz 5 ?_
  refine ky az (rrising_pure x.taken p.hts.length h3 hh) ?_
  refine wz 3 ?_
  refine sz 31 (fun g1_25 g1_25' => ?_) (fun g1_25 g1_25' => ?_)
  ·refine wz 13 ?_
   exact rz rfl (Less.eq (congrArg B (by unfold scOK; simp [*])))
  refine wz 6 ?_
  refine sz 37 (fun g1_31 g1_31' => ?_) (fun g1_31 g1_31' => ?_)
  ·have k31 : ¬ x.rest.length ≤ 4 := by omega
   refine wz 7 ?_
   exact rz rfl (Less.eq (congrArg B (by unfold scOK; simp [*])))
  have k31 : x.rest.length ≤ 4 := by omega
  refine wz 2 ?_
  refine ky az (rin_pure _ _ _) ?_
  refine wz 2 ?_
  refine iz (fun c_42 c_42' => ?_) (fun c_42 c_42' => ?_)
  ·refine wz 1 ?_
   exact rz rfl (Less.eq (congrArg B (by unfold scOK; simp [*])))
  refine wz 1 ?_
  refine aw_loopk (ι := { k : Nat // k ≤ x.rest.length ∧ ∀ i, (hi : i < x.rest.length) → i < k → (!decide (x.rest[i] ∈ x.moved)) = true }) [3] (fun i => [(5, I i.1)]) (fun H i => H) (fun i => x.rest.length - i.1) (⟨0, Nat.zero_le _, by omega⟩) ⟨jz, jz, trivial⟩ rfl ?_
  rintro ⟨k, hk, hok⟩
  refine nz ?_
  refine wz 5 ?_
  refine iz (fun c_47 c_47' => ?_) (fun c_47 c_47' => ?_)
  ·have hkL : k < x.rest.length := by omega
   refine wz 0 ?_
   refine aw_draw 8 mo (by kernel_rfl) ?_
   refine dz 7 ?_
   refine dkz az (has_pure _ _ h1) ?_
   refine dr_end ?_
   refine wz 0 ?_
   refine iz (fun c_57 c_57' => ?_) (fun c_57 c_57' => ?_)
   ·have hbad : (x.rest.all fun n => !decide (n ∈ x.moved)) = false := all_bad hkL (by rw [decide_eq_true (of_decide_eq_true c_57)]; rfl)
    refine wz 1 ?_
    exact rz rfl (Less.eq (congrArg B (by unfold scOK; rw [all_sym, hbad]; simp)))
   refine wz 3 ?_
   exact ⟨⟨k + 1, by omega, fun i hi h => (by by_cases e : i = k; (subst e; rw [decide_eq_false (of_decide_eq_false c_57)]; rfl); exact hok i hi (by omega))⟩, by simp only; omega, Sub.slots ⟨jz, jz, trivial⟩⟩
  obtain rfl : k = x.rest.length := by omega
  have hall : (x.rest.all fun n => !decide (n ∈ x.moved)) = true := all_of fun j hj => hok j hj hj
  refine wz 1 ?_
  exact rz rfl (Less.eq (congrArg B (by unfold scOK; rw [all_sym, hall]; simp_all)))
theorem rplay_pure (p : Ply) (hh : p.hts.length ≤ 1000000) (hf : p.figs.length ≤ 1000000) (hs : p.scs.length ≤ 1000000) (hx : ∀ x ∈ p.scs, x.moved.length ≤ 1000000 ∧ x.rest.length ≤ 1000000 ∧ x.taken.length ≤ 1000000) : APure Tryz.prog 22 [plA p] (B (plOK p)) := by
  refine ap Tryz.func22 (fun e0 he0 => ?_)
  refine wz 5 ?_
  refine kz az (rin_pure _ _ _) ?_
  refine wz 2 ?_
  refine sz 12 (fun g1_5 g1_5' => ?_) (fun g1_5 g1_5' => ?_)
  ·refine wz 24 ?_
   exact rz rfl (Less.eq (by unfold plOK; simp_all))
  refine wz 3 ?_
  refine ky az (rin_pure _ _ _) ?_
  refine wz 3 ?_
  refine sz 19 (fun g1_12 g1_12' => ?_) (fun g1_12 g1_12' => ?_)
  ·refine wz 17 ?_
   exact rz rfl (Less.eq (by unfold plOK; simp_all))
  refine wz 3 ?_
  refine ky az (rin_pure _ _ _) ?_
  refine wz 3 ?_
  refine sz 26 (fun g1_19 g1_19' => ?_) (fun g1_19 g1_19' => ?_)
  ·refine wz 10 ?_
   exact rz rfl (Less.eq (by unfold plOK; simp_all))
  refine wz 5 ?_
  refine ky az (rin_pure _ _ _) ?_
  refine wz 2 ?_
  refine iz (fun c_34 c_34' => ?_) (fun c_34 c_34' => ?_)
  ·refine wz 1 ?_
   exact rz rfl (Less.eq (by unfold plOK; simp_all))
  refine wz 1 ?_
  refine aw_loopk (ι := { k : Nat // k ≤ p.hts.length ∧ ∀ i, (hi : i < p.hts.length) → i < k → inn p.hts[i] 1 9 = true }) [1] (fun i => [(3, I i.1)]) (fun H i => H) (fun i => p.hts.length - i.1) (⟨0, Nat.zero_le _, by omega⟩) ⟨jz, jz, trivial⟩ rfl ?_
  rintro ⟨k, hk, hok⟩
  refine nz ?_
  refine wz 5 ?_
  refine iz (fun c_39 c_39' => ?_) (fun c_39 c_39' => ?_)
  ·have hkl : k < p.hts.length := by omega
   refine wz 5 ?_
   refine kz az (rin_pure _ _ _) ?_
   refine wz 1 ?_
   refine iz (fun c_48 c_48' => ?_) (fun c_48 c_48' => ?_)
   ·have hbad : (p.hts.all fun n => inn n 1 9) = false := all_bad hkl (by simpa using c_48)
    refine wz 1 ?_
    exact rz rfl (Less.eq (by unfold plOK; rw [hbad]; simp))
   refine wz 3 ?_
   exact ⟨⟨k + 1, by omega, fun i hi h => (by by_cases e : i = k; (subst e; simpa using c_48); exact hok i hi (by omega))⟩, by simp only; omega, Sub.slots ⟨jz, jz, trivial⟩⟩
  obtain rfl : k = p.hts.length := by omega
  have hall1 : (p.hts.all fun n => inn n 1 9) = true := all_of fun j hj => hok j hj hj
  refine wz 1 ?_
  refine aw_loopk (ι := { k : Nat // k ≤ p.figs.length ∧ ∀ i, (hi : i < p.figs.length) → i < k → fgOK p.figs[i] = true }) [1] (fun i => [(4, I i.1)]) (fun H i => H) (fun i => p.figs.length - i.1) (⟨0, Nat.zero_le _, by omega⟩) ⟨jz, jz, trivial⟩ rfl ?_
  rintro ⟨k, hk2, hok2⟩
  refine nz ?_
  refine wz 5 ?_
  refine iz (fun c_53 c_53' => ?_) (fun c_53 c_53' => ?_)
  ·have hfl : k < p.figs.length := by omega
   have hfe : fgOK p.figs[k] = ((!decide (p.figs[k].side < 1) && !decide (p.figs[k].side > 3)) && inn p.figs[k].rank 1 9 && inn p.figs[k].hands 1 2) := by unfold fgOK; rw [show inn p.figs[k].side 1 3 = (!(decide (p.figs[k].side < 1)) && !(decide (p.figs[k].side > 3))) by unfold inn; rw [Bool.eq_iff_iff]; simp]
   refine wz 11 ?_
   refine sz 64 (fun g12_3 g12_3' => ?_) (fun g12_3 g12_3' => ?_)
   ·have hbad : p.figs.all fgOK = false := all_bad hfl (by rw [hfe]; simp [*])
    refine wz 18 ?_
    exact rz rfl (Less.eq (by unfold plOK; rw [hbad]; simp))
   refine wz 5 ?_
   refine sz 69 (fun g12_8 g12_8' => ?_) (fun g12_8 g12_8' => ?_)
   ·have hbad : p.figs.all fgOK = false := all_bad hfl (by rw [hfe]; simp [*])
    refine wz 13 ?_
    exact rz rfl (Less.eq (by unfold plOK; rw [hbad]; simp))
   refine wz 2 ?_
   refine ky az (rin_pure _ _ _) ?_
   refine wz 3 ?_
   refine sz 75 (fun g12_14 g12_14' => ?_) (fun g12_14 g12_14' => ?_)
   ·have hbad : p.figs.all fgOK = false := all_bad hfl (by rw [hfe]; simp [*])
    refine wz 7 ?_
    exact rz rfl (Less.eq (by unfold plOK; rw [hbad]; simp))
   refine wz 2 ?_
   refine ky az (rin_pure _ _ _) ?_
   refine wz 2 ?_
   refine iz (fun c_80 c_80' => ?_) (fun c_80 c_80' => ?_)
   ·have hbad : p.figs.all fgOK = false := all_bad hfl (by rw [hfe]; simp [*])
    refine wz 1 ?_
    exact rz rfl (Less.eq (by unfold plOK; rw [hbad]; simp))
   have hfg : fgOK p.figs[k] = true := by rw [hfe]; simp [*]
   refine wz 3 ?_
   exact ⟨⟨k + 1, by omega, fun i hi h => (by by_cases e : i = k; (subst e; exact hfg); exact hok2 i hi (by omega))⟩, by simp only; omega, sb 1 ⟨jz, jz, trivial⟩⟩
  obtain rfl : k = p.figs.length := by omega
  have hall2 : p.figs.all fgOK = true := all_of fun j hj => hok2 j hj hj
  refine wz 1 ?_
  refine aw_loopk (ι := { k : Nat // k ≤ p.scs.length ∧ ∀ i, (hi : i < p.scs.length) → i < k → scOK p p.scs[i] = true }) [1] (fun i => [(6, I i.1)]) (fun H i => H) (fun i => p.scs.length - i.1) (⟨0, Nat.zero_le _, by omega⟩) ⟨jz, jz, trivial⟩ rfl ?_
  rintro ⟨k, hk3, hok3⟩
  refine nz ?_
  refine wz 5 ?_
  refine iz (fun c_85 c_85' => ?_) (fun c_85 c_85' => ?_)
  ·have hsl : k < p.scs.length := by omega
   have hxk := hx _ (List.getElem_mem hsl)
   refine wz 0 ?_
   refine aw_draw 8 mo (by kernel_rfl) ?_
   refine dz 6 ?_
   refine dkz az (rscene_pure p _ hxk.1 hxk.2.1 hxk.2.2 hh hf) ?_
   refine dz 1 ?_
   refine wz 0 ?_
   refine iz (fun c_95 c_95' => ?_) (fun c_95 c_95' => ?_)
   ·have hbad : p.scs.all (scOK p) = false := all_bad hsl (by simpa using c_95)
    refine wz 1 ?_
    exact rz rfl (Less.eq (by unfold plOK; rw [hbad]; simp))
   refine wz 3 ?_
   exact ⟨⟨k + 1, by omega, fun i hi h => (by by_cases e : i = k; (subst e; simpa using c_95); exact hok3 i hi (by omega))⟩, by simp only; omega, Sub.slots ⟨jz, jz, trivial⟩⟩
  obtain rfl : k = p.scs.length := by omega
  have hall3 : p.scs.all (scOK p) = true := all_of fun j hj => hok3 j hj hj
  refine wz 1 ?_
  exact rz rfl (Less.eq (by unfold plOK; rw [hall1, hall2, hall3]; simp_all))
theorem rscn_pure (p : Ply) (n : Int) (hs : p.scs.length ≤ 1000000) : APure Tryz.prog 26 [plA p, I n] (B (scIn p n)) := by
  refine ap Tryz.func26 (fun e0 he0 => ?_)
  refine wz 7 ?_
  refine kz az (rin_pure _ _ _) ?_
  refine wz 1 ?_
  exact rz rfl jz
theorem short_pure (p : Ply) : APure Tryz.prog 19 [plA p] (B (shB p)) := by
  refine ap Tryz.func19 (fun e0 he0 => ?_)
  refine wz 3 ?_
  refine aw_loopk (ι := { k : Nat // k ≤ p.scs.length ∧ k ≤ 8 ∧ ∀ i, (hi : i < p.scs.length) → i < k → shX p.scs[i] = true }) [1] (fun i => [(3, I i.1)]) (fun H i => H) (fun i => p.scs.length - i.1) (⟨0, Nat.zero_le _, by omega, by omega⟩) ⟨jz, jz, trivial⟩ rfl ?_
  rintro ⟨k, hk, hk8, hok⟩
  refine nz ?_
  refine wz 6 ?_
  refine sz 10 (fun g2_5 g2_5' => ?_) (fun g2_5 g2_5' => ?_)
  ·have hkl : k < p.scs.length := by omega
   refine wz 3 ?_
   refine iz (fun c_13 c_13' => ?_) (fun c_13 c_13' => ?_)
   ·have hk8b : k < 8 := by have := of_decide_eq_true c_13; omega
    refine wz 12 ?_
    refine sz 25 (fun g5_4 g5_4' => ?_) (fun g5_4 g5_4' => ?_)
    ·have hbad := shB_row hkl hk8b (by unfold shX; simp; omega)
     refine wz 13 ?_
     exact rz rfl (Less.eq (by rw [hbad]))
    refine wz 6 ?_
    refine sz 31 (fun g5_10 g5_10' => ?_) (fun g5_10 g5_10' => ?_)
    ·have hbad := shB_row hkl hk8b (by unfold shX; simp; omega)
     refine wz 7 ?_
     exact rz rfl (Less.eq (by rw [hbad]))
    refine wz 5 ?_
    refine iz (fun c_36 c_36' => ?_) (fun c_36 c_36' => ?_)
    ·have h6 := of_decide_eq_true c_36
     have hbad := shB_row hkl hk8b (by unfold shX; simp; omega)
     refine wz 1 ?_
     exact rz rfl (Less.eq (by rw [hbad]))
    have h6 := of_decide_eq_false c_36
    have hsx : shX p.scs[k] = true := by unfold shX; simp; omega
    refine wz 3 ?_
    exact ⟨⟨k + 1, by omega, by omega, fun i hi h => (by by_cases e : i = k; (subst e; exact hsx); exact hok i hi (by omega))⟩, by simp only; omega, sb 1 ⟨jz, jz, trivial⟩⟩
   refine wz 5 ?_
   refine sz 41 (fun g7_4 g7_4' => ?_) (fun g7_4 g7_4' => ?_)
   ·refine wz 6 ?_
    refine sz 47 (fun g7_10 g7_10' => ?_) (fun g7_10 g7_10' => ?_)
    ·refine wz 6 ?_
     exact rz rfl (Less.eq (congrArg B (by have h9 := of_decide_eq_false c_13; rw [shB_fin (fun i hi h8 => hok i hi (by omega)), Bool.eq_iff_iff]; simp; omega)))
    refine wz 6 ?_
    exact rz rfl (Less.eq (congrArg B (by have h9 := of_decide_eq_false c_13; rw [shB_fin (fun i hi h8 => hok i hi (by omega)), Bool.eq_iff_iff]; simp; omega)))
   refine wz 12 ?_
   exact rz rfl (Less.eq (congrArg B (by have h9 := of_decide_eq_false c_13; rw [shB_fin (fun i hi h8 => hok i hi (by omega)), Bool.eq_iff_iff]; simp; omega)))
  obtain rfl : k = p.scs.length := by omega
  refine wz 9 ?_
  refine sz 41 (fun g7_4 g7_4' => ?_) (fun g7_4 g7_4' => ?_)
  ·refine wz 6 ?_
   refine sz 47 (fun g7_10 g7_10' => ?_) (fun g7_10 g7_10' => ?_)
   ·refine wz 6 ?_
    exact rz rfl (Less.eq (congrArg B (by rw [shB_fin (fun i hi _ => hok i hi hi), Bool.eq_iff_iff]; simp; omega)))
   refine wz 6 ?_
   exact rz rfl (Less.eq (congrArg B (by rw [shB_fin (fun i hi _ => hok i hi hi), Bool.eq_iff_iff]; simp; omega)))
  refine wz 12 ?_
  exact rz rfl (Less.eq (congrArg B (by rw [shB_fin (fun i hi _ => hok i hi hi), Bool.eq_iff_iff]; simp; omega)))
end Go.Proofs.YtfmpabgblbbcdaaGreatDoor
namespace Go.Proofs.YtfmpabgblbbcdaaGreatDoor
open Go Go.Ab Ni St
open Hd hiding sz
instance en20 : EnT Tryz.prog 20 := ⟨Ent.of Tryz.func20 (by kernel_rfl) rfl⟩
section
variable [Tabs]
section seq
variable {c : Ctx} {ops : Array Oper} {Q : AExit → St → Prop} {rest : List Oper} {s : St} {i : Nat}
variable {d : Option Tmp} {t : TypeId} {p : String} {af : Array Edge}
end seq
section ev
variable {P : Program} {r : Option Nat} {H : List AObj} {ρ : Operand → AV}
variable {d : Option Tmp} {t : TypeId} {p : String} {af : Array Edge} {g : Option (Nat × Bool)}
end ev
end
theorem short_t {p : Ply} (h : shB p = true) : APure Tryz.prog 19 [plA p] (B true) := by have q := short_pure p; rw [h] at q; exact q
theorem short_f {p : Ply} (h : shB p = false) : APure Tryz.prog 19 [plA p] (B false) := by have q := short_pure p; rw [h] at q; exact q
theorem pl_t {p : Ply} (hs : shB p = true) (h : plOK p = true) : APure Tryz.prog 22 [plA p] (B true) := by have q := rplay_pure p (shB_len hs).1 (shB_len hs).2.1 (shB_len hs).2.2.1 (shB_len hs).2.2.2; rw [h] at q; exact q
theorem pl_f {p : Ply} (hs : shB p = true) (h : plOK p = false) : APure Tryz.prog 22 [plA p] (B false) := by have q := rplay_pure p (shB_len hs).1 (shB_len hs).2.1 (shB_len hs).2.2.1 (shB_len hs).2.2.2; rw [h] at q; exact q
end Go.Proofs.YtfmpabgblbbcdaaGreatDoor
namespace Go.Proofs.YtfmpabgblbbcdaaGreatDoor
open Go Go.Ab Ni St
open Hd hiding sz
instance en23 : EnT Tryz.prog 23 := ⟨Ent.of Tryz.func23 (by kernel_rfl) rfl⟩
instance en46 : EnT Tryz.prog 46 := ⟨Ent.of Tryz.func46 (by kernel_rfl) rfl⟩
instance en68 : EnT Tryz.prog 68 := ⟨Ent.of Tryz.func68 (by kernel_rfl) rfl⟩
instance en69 : EnT Tryz.prog 69 := ⟨Ent.of Tryz.func69 (by kernel_rfl) rfl⟩
instance en70 : EnT Tryz.prog 70 := ⟨Ent.of Tryz.func70 (by kernel_rfl) rfl⟩
instance en79 : EnT Tryz.prog 79 := ⟨Ent.of Tryz.func79 (by kernel_rfl) rfl⟩
instance en80 : EnT Tryz.prog 80 := ⟨Ent.of Tryz.func80 (by kernel_rfl) rfl⟩
instance en86 : EnT Tryz.prog 86 := ⟨Ent.of Tryz.func86 (by kernel_rfl) rfl⟩
theorem handsK_bd {p : Ply} (B : PlB p) {x : Scn} (X : ScB p x) : ∀ (k : Nat), k ≤ x.moved.length → 0 ≤ handsK p x k ∧ handsK p x k ≤ 1 + 2 * k
  | 0, _ => by have := X.kn; rw [handsK_0]; omega
  | k + 1, h => by
    have ih := handsK_bd B X k (by omega)
    have hm := mv_at X (show k < x.moved.length by omega)
    have := (fg_B B hm.1 hm.2).2.2
    rw [handsK_succ (show k < x.moved.length by omega)]; omega
def badI (p : Ply) (x : Scn) (l : List Int) (i : Nat) : Prop := l.getD i 0 ∈ l.take i ∨ l.getD i 0 ∈ x.taken ∨ ((rf p x i).side = 1 ∧ p.left ≤ l.getD i 0) ∨ ((rf p x i).side = 2 ∧ l.getD i 0 < p.left)
theorem stands_no {p : Ply} {x : Scn} {l : List Int} {i : Nat} (hi : i < l.length) (h : badI p x l i) : stands p x l = false := by
  unfold stands; rw [decide_eq_false_iff_not]; exact fun q => q i hi h
theorem stands_yes {p : Ply} {x : Scn} {l : List Int} (h : ∀ i, i < l.length → ¬ badI p x l i) : stands p x l = true := by unfold stands; exact decide_eq_true h
theorem ranks_no1 {p : Ply} {x : Scn} {l : List Int} {i : Nat} (hi : i < l.length) (h : (rf p x i).rank < ht p (l.getD i 0)) : ranks p x l = false := by
  unfold ranks; rw [decide_eq_false_iff_not]; intro q; have := (q i hi).1; omega
theorem ranks_no2 {p : Ply} {x : Scn} {l : List Int} {i k : Nat} (hi : i < l.length) (hk : k < l.length) (h : clash p x l i k = true) : ranks p x l = false := by
  unfold ranks; rw [decide_eq_false_iff_not]; intro q; have := (q i hi).2 k hk; rw [h] at this; cases this
theorem ranks_yes {p : Ply} {x : Scn} {l : List Int} (h : ∀ i, i < l.length → ht p (l.getD i 0) ≤ (rf p x i).rank ∧ ∀ k, k < l.length → clash p x l i k = false) : ranks p x l = true := by unfold ranks; exact decide_eq_true h
abbrev lst (p : Ply) (k : Nat) (now : List Int) : List (List Int) := dfs inj p.hts.length k now
def lstK (p : Ply) (k : Nat) (now : List Int) (i : Nat) : List (List Int) := (every i).flatMap fun a => if inj (now ++ [a]) = true then lst p k (now ++ [a]) else []
theorem inj_snoc (now : List Int) (a : Int) : inj (now ++ [a]) = !decide (a ∈ now) := by unfold inj; simp
theorem lstK_yes {p : Ply} {k : Nat} {now : List Int} {i : Nat} (h : ¬ (i : Int) ∈ now) : lstK p k now (i + 1) = lstK p k now i ++ lst p k (now ++ [(i : Int)]) := by
  unfold lstK; rw [show every (i + 1) = every i ++ [(i : Int)] by simp [every, List.range_succ], List.flatMap_append]; simp [inj_snoc, h]
theorem lstK_no {p : Ply} {k : Nat} {now : List Int} {i : Nat} (h : (i : Int) ∈ now) : lstK p k now (i + 1) = lstK p k now i := by
  unfold lstK; rw [show every (i + 1) = every i ++ [(i : Int)] by simp [every, List.range_succ], List.flatMap_append]; simp [inj_snoc, h]
theorem lstK_all (p : Ply) (k : Nat) (now : List Int) : lst p (k + 1) now = lstK p k now p.hts.length := rfl
theorem lst_len {p : Ply} (B : PlB p) {k : Nat} (h : k ≤ 4) (now : List Int) : (lst p k now).length ≤ 1296 := by
  have h1 := dfs_len (ok := inj) (n := p.hts.length) k now
  have h2 : p.hts.length ^ k ≤ 6 ^ k := Nat.pow_le_pow_left B.nh.2 _
  have h3 : 6 ^ k ≤ 6 ^ 4 := Nat.pow_le_pow_right (by decide) h
  unfold lst; omega
theorem flat_len {α β : Type} (f : α → List β) (b : Nat) (h : ∀ a, (f a).length ≤ b) : ∀ l : List α, (l.flatMap f).length ≤ b * l.length
  | [] => by simp
  | a :: l => by have h1 := flat_len f b h l; have h2 := h a; rw [List.flatMap_cons, List.length_append, List.length_cons, Nat.mul_succ]; omega
theorem lstK_len {p : Ply} (B : PlB p) {k : Nat} (h : k ≤ 4) (now : List Int) (i : Nat) : (lstK p k now i).length ≤ 1296 * i := by
  have h1 := flat_len (fun a => if inj (now ++ [a]) = true then lst p k (now ++ [a]) else []) 1296 (fun a => by show (if inj (now ++ [a]) = true then lst p k (now ++ [a]) else []).length ≤ 1296; split; exact lst_len B h _; simp) (every i)
  rw [show (every i).length = i by simp [every]] at h1; exact h1
theorem lst_mem {p : Ply} {k : Nat} {now l : List Int} (hn : ∀ a ∈ now, 0 ≤ a ∧ a < p.hts.length) (h : l ∈ lst p k now) : l.length = now.length + k ∧ ∀ a ∈ l, 0 ≤ a ∧ a < p.hts.length := by
  obtain ⟨h1, h2, h3, _⟩ := mem_dfs.1 h
  refine ⟨h1, fun a ha => ?_⟩
  rw [← List.take_append_drop now.length l, h2] at ha
  rcases List.mem_append.1 ha with ha | ha
  · exact hn a ha
  · exact h3 a ha
theorem arr_lst (b : Bool) (p : Ply) (x : Scn) : arr b p x = (lst p x.rest.length []).filter (suits b p x) := arr_filter b p x
theorem fil_succ {α : Type} {q : α → Bool} {l : List α} {i : Nat} (h : i < l.length) : (l.take (i + 1)).filter q = (l.take i).filter q ++ (if q l[i] = true then [l[i]] else []) := by
  rw [List.take_succ_eq_append_getElem h, List.filter_append]
  congr 1
  by_cases h1 : q l[i] = true
  · rw [if_pos h1, List.filter_cons_of_pos h1]; rfl
  · rw [if_neg h1, List.filter_cons_of_neg h1]; rfl
theorem suits_bnd {p : Ply} {x : Scn} {L : List (List Int)} (e : L = lst p x.rest.length []) {i : Nat} (h : i < L.length) : L[i].length = x.rest.length ∧ ∀ a ∈ L[i], 0 ≤ a ∧ a < p.hts.length := by
  subst e
  have := lst_mem (now := []) (fun a ha => by cases ha) (List.getElem_mem h)
  simpa using this
theorem sc_ok {p : Ply} (B : PlB p) {k : Nat} (hk : k < p.scs.length) : p.scs[k] = sc p k ∧ ScB p (sc p k) := ⟨(sc_at hk).symm, sc_B B hk⟩
def failI (p : Ply) : Int := match failsAt p with | some n => n | none => -1
theorem rhands_pure {p : Ply} (gP : PlB p) {k : Nat} (hk : k < p.scs.length) {x : Scn} (hxe : p.scs[k] = x) (gX : ScB p x) : APure Tryz.prog 68 [plA p, I k] (I (hands p x)) := by
  refine ap Tryz.func68 (fun e0 he0 => ?_)
  refine vz 2 ?_
  refine sq_nil ?_
  refine aw_seq ?_
  have hkn := gX.kn
  have hnf := gP.nf
  have hml := rising_len gX.mv
  refine wz 4 ?_
  refine sq_ev rfl (ev_less (ev_load_agg_i jz ty41.h (by simp)) (Less.eq (b := .agg (scC x)) (by rw [hxe]; rfl))) ?_
  refine wz 8 ?_
  refine aw_loopk (ι := { m : Nat // m ≤ x.moved.length }) [2, 5] (fun i => [(6, I (handsK p x i.1)), (7, I i.1)]) (fun H i => H) (fun i => x.moved.length - i.1) (⟨0, Nat.zero_le _⟩) ⟨Less.eq (by rw [handsK_0] <;> rfl), jz, jz, jz, trivial⟩ rfl ?_
  rintro ⟨m, hm⟩
  refine nz ?_
  have hbd := handsK_bd gP gX m hm
  refine wz 5 ?_
  refine iz (fun c_21 c_21' => ?_) (fun c_21 c_21' => ?_)
  ·have hml2 : m < x.moved.length := by omega
   have hmk := mv_at gX hml2
   have hfb := fg_B gP hmk.1 hmk.2
   rw [fg_at hmk.1 hmk.2] at hfb
   have eS : handsK p x m + (p.figs[(x.moved[m]).toNat]).hands = handsK p x (m + 1) := by rw [handsK_succ hml2, fg_at hmk.1 hmk.2]
   refine wz 0 ?_
   refine aw_draw 12 mo (by kernel_rfl) ?_
   refine dz 8 ?_
   refine dr_ev rfl (ev_index_map (k := (x.moved[m]).toNat) (xs := p.figs) sl23.h jz jz (by have := mv_at gX hml2; omega) (by have := mv_at gX hml2; omega)) ?_
   refine dz 3 ?_
   refine wz 4 ?_
   exact ⟨⟨m + 1, by omega⟩, by simp only; omega, Sub.slots ⟨(by exact less_int eS), jz, jz, jz, trivial⟩⟩
  obtain rfl : m = x.moved.length := by omega
  refine wz 2 ?_
  exact rz rfl (Less.eq (by rw [handsK_all]))
theorem rstands_pure {p : Ply} (gP : PlB p) {k : Nat} (hk : k < p.scs.length) {x : Scn} (hxe : p.scs[k] = x) (gX : ScB p x) {l : List Int} (hr : l.length ≤ x.rest.length) : APure Tryz.prog 80 [plA p, I k, ints l] (B (stands p x l)) := by
  refine ap Tryz.func80 (fun e0 he0 => ?_)
  refine vz 2 ?_
  refine sq_nil ?_
  refine aw_seq ?_
  have hr4 := gX.r4
  have htl := rising_len gX.tk
  have hnh := gP.nh
  refine wz 4 ?_
  refine sq_ev rfl (ev_less (ev_load_agg_i jz ty41.h (by simp)) (Less.eq (b := .agg (scC x)) (by rw [hxe]; rfl))) ?_
  refine wz 3 ?_
  refine aw_loopk (ι := { i : Nat // i ≤ l.length ∧ ∀ j, j < i → ¬ badI p x l j }) [2, 3, 7] (fun g => [(8, I g.1)]) (fun H g => H) (fun g => l.length - g.1) (⟨0, Nat.zero_le _, by omega⟩) ⟨jz, jz, jz, jz, trivial⟩ rfl ?_
  rintro ⟨i, hi, hok⟩
  refine nz ?_
  refine wz 4 ?_
  refine iz (fun c_18 c_18' => ?_) (fun c_18 c_18' => ?_)
  ·have hil : i < l.length := by omega
   have hri : i < x.rest.length := by omega
   have hfi := rs_at gX hri
   have hrf := rf_at gX hri
   have hg := getD_at (d := 0) hil
   refine wz 0 ?_
   refine aw_draw 11 mo (by kernel_rfl) ?_
   refine dz 7 ?_
   refine dr_ev rfl (ev_index_map (k := (x.rest[i]).toNat) (xs := p.figs) sl23.h jz jz (by have := hfi; omega) (by have := hfi; omega)) ?_
   refine dz 3 ?_
   refine wz 0 ?_
   refine aw_draw 43 mo (by kernel_rfl) ?_
   refine dz 2 ?_
   refine dr_ev rfl (ev_less (ev_slice (lo := 0) (hi := i) sl22.h jz rfl (less_int (by omega)) (by omega) (by simp; omega)) (Less.eq (b := ints (l.take i)) (by rw [List.drop_zero, ← List.map_take]))) ?_
   refine dz 4 ?_
   refine dkz az (has_pure _ _ (by rw [List.length_take]; omega)) ?_
   refine dz 1 ?_
   refine dsz 39 (fun g6_8 g6_8' => ?_) (fun g6_8 g6_8' => ?_)
   ·have hno := stands_no (p := p) (x := x) hil (by unfold badI; rw [hg, hrf]; exact .inl (of_decide_eq_true g6_8))
    refine dz 34 ?_
    refine wz 2 ?_
    exact rz rfl (Less.eq (by rw [hno]))
   refine dz 6 ?_
   refine dky az (has_pure _ _ (by omega)) ?_
   refine dz 2 ?_
   refine dsz 48 (fun g6_17 g6_17' => ?_) (fun g6_17 g6_17' => ?_)
   ·have hno := stands_no (p := p) (x := x) hil (by unfold badI; rw [hg, hrf]; exact .inr (.inl (of_decide_eq_true g6_17)))
    refine dz 25 ?_
    refine wz 2 ?_
    exact rz rfl (Less.eq (by rw [hno]))
   refine dz 3 ?_
   refine dsz 51 (fun g6_20 g6_20' => ?_) (fun g6_20 g6_20' => ?_)
   ·refine dz 10 ?_
    refine dsz 61 (fun g6_30 g6_30' => ?_) (fun g6_30 g6_30' => ?_)
    ·have hno := stands_no (p := p) (x := x) hil (by unfold badI; rw [hg, hrf]; exact .inr (.inr (.inl ⟨of_decide_eq_true g6_20, of_decide_eq_true g6_30⟩)))
     refine dz 12 ?_
     refine wz 2 ?_
     exact rz rfl (Less.eq (by rw [hno]))
    refine dz 3 ?_
    refine dsz 64 (fun g6_33 g6_33' => ?_) (fun g6_33 g6_33' => ?_)
    ·refine dz 9 ?_
     refine wz 0 ?_
     refine iz (fun c_73 c_73' => ?_) (fun c_73 c_73' => ?_)
     ·have hno := stands_no (p := p) (x := x) hil (by unfold badI; rw [hg, hrf]; exact .inr (.inr (.inr ⟨of_decide_eq_true g6_33, of_decide_eq_true c_73⟩)))
      refine wz 1 ?_
      exact rz rfl (Less.eq (by rw [hno]))
     have hnb : ¬ badI p x l i := by unfold badI; rw [hg, hrf]; simp_all
     refine wz 3 ?_
     exact ⟨⟨i + 1, by omega, fun j hj => (by rcases Nat.lt_or_ge j i with q | q; exact hok j q; (obtain rfl : j = i := by omega); exact hnb)⟩, by simp only; omega, Sub.slots ⟨jz, jz, jz, jz, trivial⟩⟩
    have hnb : ¬ badI p x l i := by unfold badI; rw [hg, hrf]; simp_all
    refine dz 9 ?_
    refine wz 4 ?_
    exact ⟨⟨i + 1, by omega, fun j hj => (by rcases Nat.lt_or_ge j i with q | q; exact hok j q; (obtain rfl : j = i := by omega); exact hnb)⟩, by simp only; omega, Sub.slots ⟨jz, jz, jz, jz, trivial⟩⟩
   refine dz 13 ?_
   refine dsz 64 (fun g6_33 g6_33' => ?_) (fun g6_33 g6_33' => ?_)
   ·refine dz 9 ?_
    refine wz 0 ?_
    refine iz (fun c_73 c_73' => ?_) (fun c_73 c_73' => ?_)
    ·have hno := stands_no (p := p) (x := x) hil (by unfold badI; rw [hg, hrf]; exact .inr (.inr (.inr ⟨of_decide_eq_true g6_33, of_decide_eq_true c_73⟩)))
     refine wz 1 ?_
     exact rz rfl (Less.eq (by rw [hno]))
    have hnb : ¬ badI p x l i := by unfold badI; rw [hg, hrf]; simp_all
    refine wz 3 ?_
    exact ⟨⟨i + 1, by omega, fun j hj => (by rcases Nat.lt_or_ge j i with q | q; exact hok j q; (obtain rfl : j = i := by omega); exact hnb)⟩, by simp only; omega, Sub.slots ⟨jz, jz, jz, jz, trivial⟩⟩
   have hnb : ¬ badI p x l i := by unfold badI; rw [hg, hrf]; simp_all
   refine dz 9 ?_
   refine wz 4 ?_
   exact ⟨⟨i + 1, by omega, fun j hj => (by rcases Nat.lt_or_ge j i with q | q; exact hok j q; (obtain rfl : j = i := by omega); exact hnb)⟩, by simp only; omega, Sub.slots ⟨jz, jz, jz, jz, trivial⟩⟩
  obtain rfl : i = l.length := by omega
  have hall := stands_yes (fun j hj => hok j hj)
  refine wz 1 ?_
  exact rz rfl (Less.eq (by rw [hall]))
theorem rrests_pure {p : Ply} (gP : PlB p) {k : Nat} (hk : k < p.scs.length) {x : Scn} (hxe : p.scs[k] = x) (gX : ScB p x) {l : List Int} (hl : l.length = x.rest.length) (hm : ∀ a ∈ l, 0 ≤ a ∧ a < p.hts.length) : APure Tryz.prog 70 [plA p, I k, ints l] (B (suits true p x l)) := by
  refine ap Tryz.func70 (fun e0 he0 => ?_)
  refine vz 2 ?_
  refine sq_nil ?_
  refine aw_seq ?_
  have hr4 := gX.r4
  have hnh := gP.nh
  have hnf := gP.nf
  have hss := suits_ranks gP gX hl
  refine wz 4 ?_
  refine sq_ev rfl (ev_less (ev_load_agg_i jz ty41.h (by simp)) (Less.eq (b := .agg (scC x)) (by rw [hxe]; rfl))) ?_
  refine wz 3 ?_
  refine aw_loopk (ι := { i : Nat // i ≤ l.length ∧ ∀ j, j < i → ht p (l.getD j 0) ≤ (rf p x j).rank ∧ ∀ u, u < l.length → clash p x l j u = false }) [1, 2, 3, 7] (fun g => [(8, I g.1)]) (fun H g => H) (fun g => l.length - g.1) (⟨0, Nat.zero_le _, by omega⟩) ⟨jz, jz, jz, jz, jz, trivial⟩ rfl ?_
  rintro ⟨i, hi, hok⟩
  refine nz ?_
  refine wz 4 ?_
  refine iz (fun c_19 c_19' => ?_) (fun c_19 c_19' => ?_)
  ·have hil : i < l.length := by omega
   have hri : i < x.rest.length := by omega
   have hfi := rs_at gX hri
   have hrf := rf_at gX hri
   have hg := getD_at (d := 0) hil
   have hmi := hm _ (List.getElem_mem hil)
   refine wz 0 ?_
   refine aw_draw 10 mo (by kernel_rfl) ?_
   refine dz 7 ?_
   refine dr_ev rfl (ev_index_map (k := (x.rest[i]).toNat) (xs := p.figs) sl23.h jz jz (by have := hfi; omega) (by have := hfi; omega)) ?_
   refine dz 1 ?_
   refine dr_alloc rfl z82.h ?_
   refine dr_end ?_
   refine wz 1 ?_
   refine aw_draw 11 mo (by kernel_rfl) ?_
   refine dz 6 ?_
   refine dr_ev rfl (ev_index_map (k := (l[i]).toNat) (xs := p.hts) sl22.h jz jz (by have := hmi; omega) (by have := hmi; omega)) ?_
   refine dz 4 ?_
   refine wz 0 ?_
   refine iz (fun c_41 c_41' => ?_) (fun c_41 c_41' => ?_)
   ·have hno : suits true p x l = false := by rw [hss, ranks_no1 hil (by rw [hg, hrf, ht_at hmi.1 hmi.2]; omega)]; rfl
    refine wz 1 ?_
    exact rz rfl (Less.eq (by rw [hno]))
   have hle : ht p (l.getD i 0) ≤ (rf p x i).rank := by rw [hg, hrf, ht_at hmi.1 hmi.2]; omega
   refine wz 1 ?_
   refine aw_loopk (ι := { u : Nat // u ≤ l.length ∧ ∀ v, v < u → clash p x l i v = false }) [1, 2, 3, 7, 8, 9] (fun y => [(10, I y.1)]) (fun H y => H) (fun y => l.length - y.1) (⟨0, Nat.zero_le _, by omega⟩) ⟨jz, jz, jz, jz, jz, jz, jz, trivial⟩ rfl ?_
   rintro ⟨u, hu, hok2⟩
   refine nz ?_
   refine wz 4 ?_
   refine iz (fun c_45 c_45' => ?_) (fun c_45 c_45' => ?_)
   ·have huL : u < l.length := by omega
    have huR : u < x.rest.length := by omega
    have hfu := rs_at gX huR
    have hmu := hm _ (List.getElem_mem huL)
    have hcl : clash p x l i u = ((lf p l[i] == lf p l[u]) && decide ((p.figs[(x.rest[i]).toNat]).rank < (p.figs[(x.rest[u]).toNat]).rank ∧ p.hts[(l[u]).toNat] < p.hts[(l[i]).toNat])) := by unfold clash; rw [getD_at hil, getD_at huL, rf_at gX hri, rf_at gX huR, ht_at hmi.1 hmi.2, ht_at hmu.1 hmu.2]
    refine wz 0 ?_
    refine aw_draw 49 mo (by kernel_rfl) ?_
    refine dz 16 ?_
    refine dsz 63 (fun g11_15 g11_15' => ?_) (fun g11_15 g11_15' => ?_)
    ·refine dz 9 ?_
     refine dr_yes rfl rfl (less_b g11_15) rfl (ev_index_map (k := (x.rest[u]).toNat) (xs := p.figs) sl23.h jz jz (by have := hfu; omega) (by have := hfu; omega)) ?_
     refine dz 5 ?_
     refine dsz 78 (fun g11_30 g11_30' => ?_) (fun g11_30 g11_30' => ?_)
     ·refine dz 6 ?_
      refine dr_yes rfl rfl (less_b g11_30) rfl (ev_index_map (k := (l[i]).toNat) (xs := p.hts) sl22.h jz jz (by have := hmi; omega) (by have := hmi; omega)) ?_
      refine dz 7 ?_
      refine dr_yes rfl rfl (less_b g11_30) rfl (ev_index_map (k := (l[u]).toNat) (xs := p.hts) sl22.h jz jz (by have := hmu; omega) (by have := hmu; omega)) ?_
      refine dz 3 ?_
      refine wz 0 ?_
      refine iz (fun c_96 c_96' => ?_) (fun c_96 c_96' => ?_)
      ·have hno : suits true p x l = false := by rw [hss, ranks_no2 hil huL (by rw [hcl]; unfold lf; simp_all)]; rfl
       refine wz 1 ?_
       exact rz rfl (Less.eq (by rw [hno]))
      have hnc : clash p x l i u = false := by rw [hcl, decide_eq_false (p := _ ∧ _) (fun q => by have := of_decide_eq_false c_96; omega), Bool.and_false]
      refine wz 3 ?_
      exact ⟨⟨u + 1, by omega, fun v hv => (by rcases Nat.lt_or_ge v u with q | q; exact hok2 v q; (obtain rfl : v = u := by omega); exact hnc)⟩, by simp only; omega, Sub.slots ⟨jz, jz, jz, jz, jz, jz, jz, trivial⟩⟩
     have hnc : clash p x l i u = false := by rw [hcl, decide_eq_false (p := _ ∧ _) (fun q => by have := of_decide_eq_false g11_30; omega), Bool.and_false]
     refine dz 18 ?_
     refine wz 4 ?_
     exact ⟨⟨u + 1, by omega, fun v hv => (by rcases Nat.lt_or_ge v u with q | q; exact hok2 v q; (obtain rfl : v = u := by omega); exact hnc)⟩, by simp only; omega, Sub.slots ⟨jz, jz, jz, jz, jz, jz, jz, trivial⟩⟩
    have hnc : clash p x l i u = false := by rw [hcl]; unfold lf; simp_all
    refine dz 33 ?_
    refine wz 4 ?_
    exact ⟨⟨u + 1, by omega, fun v hv => (by rcases Nat.lt_or_ge v u with q | q; exact hok2 v q; (obtain rfl : v = u := by omega); exact hnc)⟩, by simp only; omega, Sub.slots ⟨jz, jz, jz, jz, jz, jz, jz, trivial⟩⟩
   obtain rfl : u = l.length := by omega
   refine wz 3 ?_
   exact ⟨⟨i + 1, by omega, fun j hj => (by rcases Nat.lt_or_ge j i with q | q; exact hok j q; (obtain rfl : j = i := by omega); exact ⟨hle, fun u hu => hok2 u hu⟩)⟩, by simp only; omega, sb 2 ⟨jz, jz, jz, jz, jz, trivial⟩⟩
  obtain rfl : i = l.length := by omega
  have hall := ranks_yes (fun j hj => hok j hj)
  refine wz 3 ?_
  refine kz az (rstands_pure gP hk hxe gX (by omega)) ?_
  refine wz 1 ?_
  exact rz rfl (Less.eq (by rw [hss, hall, Bool.true_and]))
theorem rlists_step {p : Ply} (gP : PlB p) (mm : Nat) (ih : ∀ k, mm = k + 1 → ∀ now : List Int, now.length + k ≤ 4 → APure Tryz.prog 79 [plA p, ints now, I (now.length + k : Nat)] (hds (lst p k now))) (now : List Int) (hl : now.length + mm ≤ 4) : APure Tryz.prog 79 [plA p, ints now, I (now.length + mm : Nat)] (hds (lst p mm now)) := by
  refine ap Tryz.func79 (fun e0 he0 => ?_)
  refine vz 2 ?_
  refine sq_nil ?_
  refine aw_seq ?_
  refine aw_seq ?_
  have hnh := gP.nh
  refine wz 4 ?_
  refine iz (fun c_12 c_12' => ?_) (fun c_12 c_12' => ?_)
  ·obtain rfl : mm = 0 := by omega
   refine wz 1 ?_
   refine sq_ev rfl (ev_less (ev_buildSlice (es := [[_]]) sf61.h rfl rfl rfl rfl) (less_slx _ _)) ?_
   refine wz 1 ?_
   exact retQ_pure (v := .sl _ _) rfl rfl (Less.eq rfl)
  obtain ⟨k, rfl⟩ : ∃ k, mm = k + 1 := ⟨mm - 1, by omega⟩
  refine vz 2 ?_
  refine sq_nil ?_
  refine aw_block ?_
  refine aw_sub (sub_token 7 1 jz) ?_
  refine aw_loopk (ι := { k : Nat // k ≤ p.hts.length }) [1, 2, 3] (fun i => [(8, I i.1), (7, .own 1 1 ((lstK p k now i.1).map fun h => [ints h]))]) (fun H i => H.set 1 (.tok ((lstK p k now i.1).map fun h => [ints h]).length)) (fun i => p.hts.length - i.1) (⟨0, Nat.zero_le _⟩) ⟨jz, jz, jz, jz, jz, trivial⟩ rfl ?_
  rintro ⟨i, hi⟩
  refine nz ?_
  have hll := lstK_len gP (k := k) (by omega) now i
  have hl2 := lst_len gP (k := k) (by omega) (now ++ [(i : Int)])
  refine wz 5 ?_
  refine iz (fun c_19 c_19' => ?_) (fun c_19 c_19' => ?_)
  ·have hin : i < p.hts.length := by omega
   refine wz 2 ?_
   refine kz az (has_pure _ _ (by omega)) ?_
   refine wz 1 ?_
   refine iz (fun c_25 c_25' => ?_) (fun c_25 c_25' => ?_)
   ·have hnm : ¬ (i : Int) ∈ now := by simpa using c_25
    have eS : (lstK p k now (i + 1)).map (fun h => [ints h]) = (lstK p k now i).map (fun h => [ints h]) ++ (lst p k (now ++ [(i : Int)])).map (fun h => [ints h]) := by rw [lstK_yes hnm, List.map_append]
    refine aw_drawc [] [3, 6, 9] _ mo (by kernel_rfl) (HSub.mask [1] 0 _) ?_
    first | refine dc_ev rfl (ev_mv (v := .sl _ _) jz) ?_ | refine dc_ev rfl (ev_mv (v := .own _ _ _) jz) ?_ | refine dc_ev rfl (ev_mv (v := .raw _) jz) ?_ | refine dc_ev rfl (ev_mv (v := .slx _ _) jz) ?_ | refine dc_ev rfl (ev_mv (v := .msl _ _ _ _) jz) ?_
    first | refine dc_ev rfl (ev_load_agg jz rfl ty26.h rfl) ?_ | refine dc_ev rfl (ev_load_agg_i jz ty26.h (by exact Nat.le_of_ble_eq_true rfl)) ?_
    first | refine dc_ev rfl (ev_mv (v := .sl _ _) jz) ?_ | refine dc_ev rfl (ev_mv (v := .own _ _ _) jz) ?_ | refine dc_ev rfl (ev_mv (v := .raw _) jz) ?_ | refine dc_ev rfl (ev_mv (v := .slx _ _) jz) ?_ | refine dc_ev rfl (ev_mv (v := .msl _ _ _ _) jz) ?_
    refine dc_eff rfl rfl (eff_append_new rfl sf22.h Tryz.underlying22 (less_nilx _) jz (by simp; omega) (by simp; omega)) (by apply HL.sub; repeat' (first | exact HL.nil _ | apply HL.same | apply HL.tok)) ?_
    refine dc_ev rfl (ev_mv (v := .raw _) jz) ?_
    refine dc_ev rfl (ev_buildSlice (es := [[_]]) sf22.h rfl rfl rfl rfl) ?_
    refine dc_eff rfl rfl (eff_append rfl sf22.h Tryz.underlying22 rfl rfl (less_slx _ _) (by simp; omega) (by simp; omega)) (by apply HL.sub; repeat' (first | exact HL.nil _ | apply HL.same | apply HL.tok)) ?_
    refine dc_ev rfl (ev_mv (v := .raw _) jz) ?_
    refine dc_ev rfl (ev_call en79.h jz (ih k rfl (now ++ [(i : Int)]) (by simp; omega)) ⟨jz, Less.trans (less_own _ _ _) (Less.eq (by simp)), (by exact less_int (by simp; omega)), trivial⟩) ?_
    refine dc_eff rfl rfl (eff_append rfl sf61.h Tryz.underlying61 rfl rfl jz (by simp; omega) (by simp; omega)) (by apply HL.sub; repeat' (first | exact HL.nil _ | apply HL.same | apply HL.tok)) ?_
    first | refine dc_ev rfl (ev_as (v := .sl _ _) jz) ?_ | refine dc_ev rfl (ev_as (v := .own _ _ _) jz) ?_ | refine dc_ev rfl (ev_as (v := .raw _) jz) ?_ | refine dc_ev rfl (ev_as (v := .slx _ _) jz) ?_ | refine dc_ev rfl (ev_as (v := .msl _ _ _ _) jz) ?_
    refine dc_nil ?_
    refine wz 3 ?_
    exact ⟨⟨i + 1, by omega⟩, by simp only; omega, sb 2 ⟨jz, Less.eq (by rw [eS] <;> rfl), jz, jz, jz, trivial⟩ (hH := (congrArg (fun n => [_, AObj.tok n]) (congrArg List.length eS.symm)))⟩
   have hnm : (i : Int) ∈ now := by simpa using c_25
   have eS : (lstK p k now (i + 1)).map (fun h => [ints h]) = (lstK p k now i).map (fun h => [ints h]) := by rw [lstK_no hnm]
   refine wz 3 ?_
   exact ⟨⟨i + 1, by omega⟩, by simp only; omega, sb 2 ⟨jz, Less.eq (by rw [eS] <;> rfl), jz, jz, jz, trivial⟩ (hH := (congrArg (fun n => [_, AObj.tok n]) (congrArg List.length eS.symm)))⟩
  obtain rfl : i = p.hts.length := by omega
  refine wz 2 ?_
  exact retQ_pure (v := .own _ _ _) rfl rfl (Less.trans (less_own _ _ _) (Less.eq (by rw [lstK_all])))
theorem rlists_pure {p : Ply} (gP : PlB p) : ∀ (mm : Nat) (now : List Int), now.length + mm ≤ 4 → APure Tryz.prog 79 [plA p, ints now, I (now.length + mm : Nat)] (hds (lst p mm now))
  | 0, now, h => rlists_step gP 0 (fun k e => by omega) now h
  | m + 1, now, h => rlists_step gP (m + 1) (fun k e now h => by
      have e2 := Nat.succ.inj e
      subst e2
      exact rlists_pure gP m now h) now h
theorem rlists0 {p : Ply} (gP : PlB p) {m : Nat} (h : m ≤ 4) : APure Tryz.prog 79 [plA p, ints [], I m] (hds (lst p m [])) := by
  have := rlists_pure gP m [] (by simpa using h)
  simpa using this
theorem rall_pure {p : Ply} (gP : PlB p) {k : Nat} (hk : k < p.scs.length) {x : Scn} (hxe : p.scs[k] = x) (gX : ScB p x) : APure Tryz.prog 46 [plA p, I k] (hds (arr true p x)) := by
  refine ap Tryz.func46 (fun e0 he0 => ?_)
  refine vz 2 ?_
  refine sq_nil ?_
  refine aw_seq ?_
  have hr4 := gX.r4
  have hlen := lst_len gP (k := x.rest.length) gX.r4 []
  refine aw_draw 10 mo (by kernel_rfl) ?_
  refine dz 4 ?_
  refine dr_ev rfl (ev_less (ev_index_map (k := k) (xs := p.scs) sl24.h jz jz rfl hk) (Less.eq (b := .iptr (scC x)) (by rw [hxe]))) ?_
  refine dz 3 ?_
  refine dr_ev rfl (ev_call en79.h jz (rlists0 gP gX.r4) ⟨jz, less_nil 1, jz, trivial⟩) ?_
  refine dz 1 ?_
  refine vz 2 ?_
  refine sq_nil ?_
  refine aw_block ?_
  refine aw_sub (sub_token 6 1 jz) ?_
  refine aw_loopk (ι := { k : Nat // k ≤ (lst p x.rest.length []).length }) [1, 2, 5] (fun i => [(7, I i.1), (6, .own 1 1 ((((lst p x.rest.length []).take i.1).filter (suits true p x)).map fun h => [ints h]))]) (fun H i => H.set 1 (.tok ((((lst p x.rest.length []).take i.1).filter (suits true p x)).map fun h => [ints h]).length)) (fun i => (lst p x.rest.length []).length - i.1) (⟨0, Nat.zero_le _⟩) ⟨jz, jz, jz, jz, jz, trivial⟩ rfl ?_
  rintro ⟨i, hi⟩
  refine nz ?_
  have hfl : (((lst p x.rest.length []).take i).filter (suits true p x)).length ≤ i := Nat.le_trans (List.length_filter_le _ _) (by rw [List.length_take]; omega)
  refine wz 4 ?_
  refine iz (fun c_20 c_20' => ?_) (fun c_20 c_20' => ?_)
  ·have hil : i < (lst p x.rest.length []).length := by omega
   refine wz 0 ?_
   refine aw_draw 7 mo (by kernel_rfl) ?_
   refine dz 4 ?_
   refine dr_ev rfl (ev_index_map (k := i) (xs := lst p x.rest.length []) sl61.h jz jz rfl hil) ?_
   refine dz 1 ?_
   refine dkz az (rrests_pure gP hk hxe gX (suits_bnd rfl hil).1 (suits_bnd rfl hil).2) ?_
   refine dr_end ?_
   refine wz 0 ?_
   refine iz (fun c_29 c_29' => ?_) (fun c_29 c_29' => ?_)
   ·have eS : (((lst p x.rest.length []).take (i + 1)).filter (suits true p x)).map (fun h => [ints h]) = (((lst p x.rest.length []).take i).filter (suits true p x)).map (fun h => [ints h]) ++ [[ints (lst p x.rest.length [])[i]]] := by rw [fil_succ hil, if_pos c_29, List.map_append]; rfl
    refine wz 3 ?_
    refine sq_ev rfl (ev_index_map (k := i) (xs := lst p x.rest.length []) sl61.h jz jz rfl hil) ?_
    refine wz 1 ?_
    refine sq_ev rfl (ev_buildSlice (es := [[_]]) sf61.h rfl rfl rfl rfl) ?_
    first | refine sq_append rfl sf61.h Tryz.underlying61 rfl rfl jz (Nat.succ_pos _) (by simp; omega) (by simp; omega) ?_ | refine sq_append rfl sf61.h Tryz.underlying61 rfl rfl (less_slx _ _) (Nat.succ_pos _) (by simp; omega) (by simp; omega) ?_
    refine wz 4 ?_
    exact ⟨⟨i + 1, by omega⟩, by simp only; omega, sb 2 ⟨jz, Less.eq (by rw [eS] <;> rfl), jz, jz, jz, trivial⟩ (hH := (congrArg (fun n => [_, AObj.tok n]) (congrArg List.length eS.symm)))⟩
   have eS : (((lst p x.rest.length []).take (i + 1)).filter (suits true p x)).map (fun h => [ints h]) = (((lst p x.rest.length []).take i).filter (suits true p x)).map (fun h => [ints h]) := by rw [fil_succ hil, if_neg (by rw [c_29]; simp), List.append_nil]
   refine wz 3 ?_
   exact ⟨⟨i + 1, by omega⟩, by simp only; omega, sb 2 ⟨jz, Less.eq (by rw [eS] <;> rfl), jz, jz, jz, trivial⟩ (hH := (congrArg (fun n => [_, AObj.tok n]) (congrArg List.length eS.symm)))⟩
  obtain rfl : i = (lst p x.rest.length []).length := by omega
  refine wz 2 ?_
  exact retQ_pure (v := .own _ _ _) rfl rfl (Less.trans (less_own _ _ _) (Less.eq (by rw [List.take_length, arr_lst])))
theorem rcan_pure {p : Ply} (gP : PlB p) {k : Nat} (hk : k < p.scs.length) {x : Scn} (hxe : p.scs[k] = x) (gX : ScB p x) : APure Tryz.prog 69 [plA p, I k] (B (St.can p x)) := by
  refine ap Tryz.func69 (fun e0 he0 => ?_)
  refine vz 2 ?_
  refine sq_nil ?_
  refine aw_seq ?_
  have hal := arr_len gP gX true
  have hie : (!(arr true p x).isEmpty) = decide (((arr true p x).length : Int) > 0) := by rw [Bool.eq_iff_iff]; cases arr true p x <;> simp
  refine wz 2 ?_
  refine kz az (rhands_pure gP hk hxe gX) ?_
  refine wz 2 ?_
  refine sz 9 (fun g1_4 g1_4' => ?_) (fun g1_4 g1_4' => ?_)
  ·refine wz 2 ?_
   refine ky az (rall_pure gP hk hxe gX) ?_
   refine wz 4 ?_
   exact rz rfl (Less.eq (congrArg B (by unfold St.can; rw [hie]; simp [*])))
  refine wz 7 ?_
  exact rz rfl (Less.eq (congrArg B (by unfold St.can; rw [hie]; simp [*])))
theorem rfails_pure {p : Ply} (gP : PlB p) : APure Tryz.prog 23 [plA p] (I (failI p)) := by
  refine ap Tryz.func23 (fun e0 he0 => ?_)
  refine aw_seq ?_
  have hns := gP.ns
  refine wz 3 ?_
  refine aw_loopk (ι := { i : Nat // i ≤ p.scs.length ∧ ∀ j, j < i → St.can p (sc p j) = true }) [1] (fun i => [(3, I i.1)]) (fun H i => H) (fun i => p.scs.length - i.1) (⟨0, Nat.zero_le _, by omega⟩) ⟨jz, jz, trivial⟩ rfl ?_
  rintro ⟨i, hi, hok⟩
  refine nz ?_
  refine wz 5 ?_
  refine iz (fun c_8 c_8' => ?_) (fun c_8 c_8' => ?_)
  ·have hil : i < p.scs.length := by omega
   refine wz 2 ?_
   refine kz az (rcan_pure gP hil (sc_ok gP hil).1 (sc_ok gP hil).2) ?_
   refine wz 1 ?_
   refine iz (fun c_14 c_14' => ?_) (fun c_14 c_14' => ?_)
   ·have hres : failI p = i := by unfold failI; rw [fails_is hil (by simpa using c_14) hok]
    refine wz 2 ?_
    exact rz rfl (Less.eq (by rw [hres]))
   refine wz 3 ?_
   exact ⟨⟨i + 1, by omega, fun j hj => (by by_cases e : j = i; (subst e; simpa using c_14); exact hok j (by omega))⟩, by simp only; omega, Sub.slots ⟨jz, jz, trivial⟩⟩
  have hres : failI p = -1 := by unfold failI; rw [fails_no (fun j hj => hok j (by omega))]
  refine wz 1 ?_
  exact rz rfl (Less.eq (by rw [hres]))
theorem rindex_pure (l : List Int) (n : Int) (hl : l.length ≤ 1000000) : APure Tryz.prog 86 [ints l, I n] (I (ixQ (fun x => decide (n = x)) l)) := by
  refine ap Tryz.func86 (fun e0 he0 => ?_)
  refine wz 2 ?_
  refine aw_loopk (ι := { k : Nat // k ≤ l.length ∧ ∀ i, (hi : i < l.length) → i < k → decide (n = l[i]) = false }) [0, 1] (fun i => [(5, I i.1)]) (fun H i => H) (fun i => l.length - i.1) (⟨0, Nat.zero_le _, by omega⟩) ⟨jz, jz, jz, trivial⟩ rfl ?_
  rintro ⟨k, hk, hok⟩
  refine nz ?_
  refine wz 4 ?_
  refine iz (fun c_9 c_9' => ?_) (fun c_9 c_9' => ?_)
  ·have hkL : k < l.length := by omega
   refine wz 6 ?_
   refine iz (fun c_17 c_17' => ?_) (fun c_17 c_17' => ?_)
   ·refine wz 2 ?_
    exact rz rfl (Less.eq (by rw [ixQ_at (q := fun x => decide (n = x)) hkL (decide_eq_true (of_decide_eq_true c_17).symm) hok]))
   refine wz 3 ?_
   exact ⟨⟨k + 1, by omega, fun i hi h => (by by_cases e : i = k; (subst e; exact decide_eq_false (fun q => of_decide_eq_false c_17 q.symm)); exact hok i hi (by omega))⟩, by simp only; omega, Sub.slots ⟨jz, jz, jz, trivial⟩⟩
  refine wz 1 ?_
  exact rz rfl (Less.eq (by rw [ixQ_no (q := fun x => decide (n = x)) fun i hi => hok i hi (by omega)]))
end Go.Proofs.YtfmpabgblbbcdaaGreatDoor
namespace Go.Proofs.YtfmpabgblbbcdaaGreatDoor
open Go Go.Ab Ni St
open Hd hiding sz
theorem rfail_n {p : Ply} (gP : PlB p) (h : failsAt p = none) : APure Tryz.prog 23 [plA p] (I (-1)) := by have q := rfails_pure gP; unfold failI at q; rw [h] at q; exact q
theorem rfail_s {p : Ply} (gP : PlB p) {n : Nat} (h : failsAt p = some n) : APure Tryz.prog 23 [plA p] (I n) := by have q := rfails_pure gP; unfold failI at q; rw [h] at q; exact q
theorem scn_t {p : Ply} {n : Int} (hs : shB p = true) (h : scIn p n = true) : APure Tryz.prog 26 [plA p, I n] (B true) := by have q := rscn_pure p n (shB_len hs).2.2.1; rw [h] at q; exact q
theorem scn_f {p : Ply} {n : Int} (hs : shB p = true) (h : scIn p n = false) : APure Tryz.prog 26 [plA p, I n] (B false) := by have q := rscn_pure p n (shB_len hs).2.2.1; rw [h] at q; exact q
theorem rest_len {p : Ply} (hr : plOK p = true) {k : Nat} (hk : k < p.scs.length) : (sc p k).rest.length ≤ 4 := (sc_B (plOK_B hr) hk).r4
theorem bad_of1 {p : Ply} {n : Int} (h : plOK p = false) : (plOK p && scIn p n) = false := by rw [h]; rfl
theorem bad_of2 {p : Ply} {n : Int} (h : scIn p n = false) : (plOK p && scIn p n) = false := by rw [h]; simp
theorem ix_mem {l : List Int} {g : Int} (h : g ∈ l) : ∃ i, ∃ hi : i < l.length, ixQ (fun x => decide (g = x)) l = (i : Int) ∧ l[i] = g := by
  cases e : l.findIdx? (fun x => decide (g = x)) with
  | none => rw [List.findIdx?_eq_none_iff] at e; have := e g h; simp at this
  | some i =>
    obtain ⟨h1, h2, _⟩ := List.findIdx?_eq_some_iff_getElem.1 e
    exact ⟨i, h1, by unfold ixQ; rw [e], (of_decide_eq_true h2).symm⟩
theorem ix_not {l : List Int} {g : Int} (h : ¬ g ∈ l) : ixQ (fun x => decide (g = x)) l = -1 := ixQ_no fun i hi => decide_eq_false fun e => h (e ▸ List.getElem_mem hi)
theorem has_t {l : List Int} {g : Int} (hl : l.length ≤ 1000000) (h : g ∈ l) : APure Tryz.prog 27 [ints l, I g] (B true) := by have q := has_pure l g hl; rw [decide_eq_true h] at q; exact q
theorem has_f {l : List Int} {g : Int} (hl : l.length ≤ 1000000) (h : ¬ g ∈ l) : APure Tryz.prog 27 [ints l, I g] (B false) := by have q := has_pure l g hl; rw [decide_eq_false h] at q; exact q
end Go.Proofs.YtfmpabgblbbcdaaGreatDoor
namespace Go.Proofs.YtfmpabgblbbcdaaGreatDoor
open Go Go.Ab Ni St
open Hd hiding sz
theorem can_nil {p : Ply} {x : Scn} (hz : arr true p x = []) : St.can p x = false := by unfold St.can; rw [hz]; simp
end Go.Proofs.YtfmpabgblbbcdaaGreatDoor
namespace Go.Proofs.YtfmpabgblbbcdaaGreatDoor
open Go Go.Ab Ni St
open Hd hiding sz
instance en124 : EnT Tryz.prog 124 := ⟨Ent.of Tryz.func124 (by kernel_rfl) rfl⟩
instance en125 : EnT Tryz.prog 125 := ⟨Ent.of Tryz.func125 (by kernel_rfl) rfl⟩
theorem rstep_pure {p : Ply} (gP : PlB p) {n : Nat} (hn : n + 1 < p.scs.length) {a b : List Int} (ha : a.length = (sc p n).rest.length) (hb : b.length = (sc p (n + 1)).rest.length) : APure Tryz.prog 125 [plA p, I n, ints a, ints b] (I (stp p n a b)) := by
  refine ap Tryz.func125 (fun e0 he0 => ?_)
  refine vz 2 ?_
  refine sq_nil ?_
  refine aw_seq ?_
  have hn0 : n < p.scs.length := by omega
  have hns := gP.ns
  have gX := sc_B gP hn0
  have gY := sc_B gP hn
  have hr4 := gX.r4
  have hr5 := gY.r4
  refine wz 2 ?_
  refine aw_loopk (ι := { m : Nat // m ≤ a.length }) [1, 2, 3, 4] (fun i => [(9, I (tnK (sc p n) (sc p (n + 1)) a b i.1 : Nat)), (10, I (i.1 : Nat))]) (fun H i => H) (fun i => a.length - i.1) (⟨0, Nat.zero_le _⟩) ⟨jz, jz, jz, jz, jz, jz, trivial⟩ rfl ?_
  rintro ⟨m, hm⟩
  refine nz ?_
  have htb := tnK_le (sc p n) (sc p (n + 1)) a b m
  refine wz 4 ?_
  refine iz (fun c_15 c_15' => ?_) (fun c_15 c_15' => ?_)
  ·have hma : m < a.length := by omega
   have hml : m < (sc p n).rest.length := by omega
   have hix := rindex_pure (sc p (n + 1)).rest ((sc p n).rest[m]) (by omega)
   rw [show ixQ (fun x => decide ((sc p n).rest[m] = x)) (sc p (n + 1)).rest = inB (sc p n) (sc p (n + 1)) m by unfold inB; rw [getD_at hml]] at hix
   refine wz 0 ?_
   refine aw_draw 18 mo (by kernel_rfl) ?_
   refine dz 4 ?_
   refine dr_ev rfl (ev_less (ev_index_map (k := n + 1) (xs := p.scs) sl24.h jz jz (by omega) hn) (Less.eq (b := .iptr (scC (sc p (n + 1)))) (by rw [sc_at hn]))) ?_
   refine dz 5 ?_
   refine dr_ev rfl (ev_less (ev_index_map (k := n) (xs := p.scs) sl24.h jz jz (by omega) hn0) (Less.eq (b := .iptr (scC (sc p (n)))) (by rw [sc_at hn0]))) ?_
   refine dz 3 ?_
   refine dr_ev rfl (ev_index_map (k := m) (xs := (sc p n).rest) sl22.h jz jz rfl hml) ?_
   refine dz 1 ?_
   refine dkz az (hix) ?_
   refine dz 1 ?_
   refine wz 0 ?_
   refine aw_draw 13 mo (by kernel_rfl) ?_
   refine dz 3 ?_
   refine dsz 37 (fun g6_2 g6_2' => ?_) (fun g6_2 g6_2' => ?_)
   ·have hge : 0 ≤ inB (sc p n) (sc p (n + 1)) m := by omega
    obtain ⟨hi1, hi2⟩ := ixQ_lt hge
    have hi2 : (inB (sc p n) (sc p (n + 1)) m).toNat < b.length := by rw [hb]; exact hi2
    refine dz 2 ?_
    refine dr_yes rfl rfl (less_b g6_2) rfl (ev_index_map (k := (inB (sc p n) (sc p (n + 1)) m).toNat) (xs := b) sl22.h jz jz hi1 hi2) ?_
    refine dz 3 ?_
    refine dr_yes rfl rfl (less_b g6_2) rfl (ev_index_map (k := m) (xs := a) sl22.h jz jz rfl hma) ?_
    refine dz 3 ?_
    refine wz 0 ?_
    refine iz (fun c_47 c_47' => ?_) (fun c_47 c_47' => ?_)
    ·have hst : tn1 (sc p n) (sc p (n + 1)) a b m = true := by unfold tn1; rw [decide_eq_true hge, getD_at hma, getD_at hi2, decide_eq_false (fun q => by rw [q] at c_47; simp at c_47)]; rfl
     refine wz 6 ?_
     exact ⟨⟨m + 1, by omega⟩, by simp only; omega, Sub.slots ⟨(by exact less_int (by rw [tnK_succ, hst]; simp)), jz, jz, jz, jz, jz, trivial⟩⟩
    have hst : tn1 (sc p n) (sc p (n + 1)) a b m = false := by unfold tn1; rw [getD_at hma, getD_at hi2, decide_eq_true (p := a[m] = b[(inB (sc p n) (sc p (n + 1)) m).toNat]) (by simp at c_47; exact c_47.symm)]; simp
    refine wz 3 ?_
    exact ⟨⟨m + 1, by omega⟩, by simp only; omega, Sub.slots ⟨(by exact less_int (by rw [tnK_succ, hst]; simp)), jz, jz, jz, jz, jz, trivial⟩⟩
   have hlt : ¬ 0 ≤ inB (sc p n) (sc p (n + 1)) m := by omega
   have hst : tn1 (sc p n) (sc p (n + 1)) a b m = false := by unfold tn1; rw [decide_eq_false hlt]; rfl
   refine dz 10 ?_
   refine wz 4 ?_
   exact ⟨⟨m + 1, by omega⟩, by simp only; omega, Sub.slots ⟨(by exact less_int (by rw [tnK_succ, hst]; simp)), jz, jz, jz, jz, jz, trivial⟩⟩
  obtain rfl : m = a.length := by omega
  refine wz 2 ?_
  exact rz rfl (Less.eq (by rw [ha]; rfl))
end Go.Proofs.YtfmpabgblbbcdaaGreatDoor
namespace Go.Proofs.YtfmpabgblbbcdaaGreatDoor
open Go Go.Ab Ni St
open Hd hiding sz
theorem made_nil (n : Nat) : (madeCells #[Value.slice none 0 0] (n * 1)).toList = List.replicate n (.slice none 0 0) := by
  unfold madeCells
  rw [Nat.mul_one]
  apply List.ext_getElem?
  intro k
  simp only [Array.toList_map, Array.toList_range, List.getElem?_map, List.getElem?_range, List.getElem?_replicate]
  by_cases h : k < n
  · simp [h, Nat.mod_one]
  · simp [h]
theorem mk61 (n : Nat) (hn : n ≤ 1000000) : makeB Tryz.prog 61 n = some (List.replicate n (.slice none 0 0)) := by
  obtain ⟨i, h1, h2, h3, h4⟩ : ∃ i : TypeInfo, Tryz.prog.info? 22 = some i ∧ i.zero = some (.slice none 0 0) ∧ i.size = 1 ∧ i.bytes = 24 := ⟨_, rfl, rfl, rfl, rfl⟩
  unfold makeB
  rw [Tryz.underlying61]
  simp only [h1, h2, h3, h4]
  have e : (Value.slice none 0 0).cells = #[.slice none 0 0] := rfl
  rw [e, made_nil, if_pos ⟨Nat.ble_eq_true_of_le (by omega), by simp [Value.oneCell']⟩]
def lrow (p : Ply) (i : Nat) : List Int := (List.range (ls p i).length).map (lefI p i)
theorem lrow_len (p : Ply) (i : Nat) : (lrow p i).length = (ls p i).length := by unfold lrow; simp
theorem lrow_get {p : Ply} {i j : Nat} (h : j < (ls p i).length) : (lrow p i)[j]'(by rw [lrow_len]; exact h) = lefI p i j := by unfold lrow; simp
theorem lrow_succ {p : Ply} {i j : Nat} (h : j < (ls p i).length) : (lrow p i).take (j + 1) = (lrow p i).take j ++ [lefI p i j] := by
  rw [List.take_succ_eq_append_getElem (by rw [lrow_len]; exact h), lrow_get h]
abbrev nilV : AV := .raw (.slice none 0 0)
def rcL (p : Ply) (N n : Nat) : List AV := (List.range N).map fun i => if n ≤ i then ints (lrow p i) else nilV
theorem rcL_len (p : Ply) (N n : Nat) : (rcL p N n).length = N := by unfold rcL; simp
theorem rcL_get {p : Ply} {N n i : Nat} (h : i < N) : (rcL p N n)[i]? = some (if n ≤ i then ints (lrow p i) else nilV) := by unfold rcL; simp [h]
theorem rcL_at {p : Ply} {N n i : Nat} (h : i < (rcL p N n).length) : (rcL p N n)[i] = if n ≤ i then ints (lrow p i) else nilV := by
  have h2 := rcL_get (p := p) (n := n) (show i < N by rw [rcL_len] at h; exact h)
  rw [List.getElem?_eq_getElem h] at h2; exact Option.some.inj h2
theorem made_rc (p : Ply) (N : Nat) : (List.replicate N (Value.slice none 0 0)).map AV.raw = rcL p N N := by
  refine List.ext_getElem (by simp [rcL_len]) fun i h1 h2 => ?_
  rw [rcL_len] at h2
  rw [rcL_at, if_neg (by omega)]; simp
theorem rcL_set {p : Ply} {N n : Nat} (h : n < N) : (rcL p N (n + 1)).set n (ints (lrow p n)) = rcL p N n := by
  refine List.ext_getElem (by simp [rcL_len]) fun i h1 h2 => ?_
  rw [rcL_len] at h2
  rw [List.getElem_set]
  by_cases e : n = i
  · subst e; rw [if_pos rfl, rcL_at, if_pos (Nat.le_refl _)]
  · rw [if_neg e, rcL_at, rcL_at]
    by_cases q : n ≤ i
    · rw [if_pos q, if_pos (by omega)]
    · rw [if_neg q, if_neg (by omega)]
theorem rcL_all (p : Ply) (N : Nat) : rcL p N 0 = ((List.range N).map fun i => [ints (lrow p i)]).flatten ++ [] := by
  unfold rcL
  rw [List.append_nil]
  induction List.range N with
  | nil => rfl
  | cons a l ih => simp only [List.map_cons, List.flatten_cons, ← ih]; simp
theorem inL_rc (p : Ply) (N n k : Nat) : AV.inL k (rcL p N n) = true := by
  unfold rcL
  induction List.range N with
  | nil => rfl
  | cons a l ih =>
    rw [List.map_cons]
    show ((if n ≤ a then ints (lrow p a) else nilV).inB k && AV.inL k (l.map fun i => if n ≤ i then ints (lrow p i) else nilV)) = true
    rw [ih]; split <;> simp [AV.inB]
theorem inL_set {k : Nat} {x : AV} (hx : x.inB k = true) : ∀ {l : List AV} {n : Nat}, AV.inL k l = true → AV.inL k (l.set n x) = true
  | [], _, _ => rfl
  | a :: l, 0, h => by
    rw [List.set_cons_zero]
    show (x.inB k && AV.inL k l) = true
    have h : (a.inB k && AV.inL k l) = true := h
    rw [Bool.and_eq_true] at h
    rw [hx, h.2]; rfl
  | a :: l, n + 1, h => by
    rw [List.set_cons_succ]
    show (a.inB k && AV.inL k (l.set n x)) = true
    have h : (a.inB k && AV.inL k l) = true := h
    rw [Bool.and_eq_true] at h
    rw [h.1, inL_set hx h.2]; rfl
theorem row_in (p : Ply) (N n i : Nat) : AV.inL 4 ((rcL p N (n + 1)).set n (.own 3 1 (((lrow p n).take i).map fun x => [I x]))) = true := inL_set (by simp only [AV.inB, inE_ints]; rfl) (inL_rc _ _ _ _)
theorem sub_tok_at {c : Ctx} {s : St} (b n sz : Nat) {l : List AV} (hb : s.H[b]? = some (.cells l)) (hn : l[n]? = some nilV) : Sub c s { s with H := s.H.set b (.cells (l.set n (.own s.H.length sz []))) ++ [.tok 0] } := by
  obtain ⟨hl, he⟩ := List.getElem?_eq_some_iff.1 hn
  have e : l = l.take n ++ nilV :: l.drop (n + 1) := by rw [← he, ← List.drop_eq_getElem_cons, List.take_append_drop]
  have h := sub_token_cell (c := c) (s := s) b sz (l.take n) (l.drop (n + 1)) (by rw [← e]; exact hb)
  have e2 : l.set n (.own s.H.length sz []) = l.take n ++ .own s.H.length sz [] :: l.drop (n + 1) := by
    rw [List.set_eq_take_append_cons_drop, if_pos hl]
  rw [e2]; exact h
theorem repL_set_less {e : Env} {x y : AV} (hxy : Less x y) : ∀ {l : List AV} {n : Nat} {vs : List Value}, l[n]? = some x → RepL e l vs → RepL e (l.set n y) vs
  | [], n, vs, h, _ => by simp at h
  | a :: l, 0, vs, h, hr => by
    simp only [List.getElem?_cons_zero, Option.some.injEq] at h; subst h
    rw [RepL] at hr
    obtain ⟨v, rest, rfl, h2, h3⟩ := hr
    rw [List.set_cons_zero]
    exact RepL.cons (hxy _ _ h2) h3
  | a :: l, n + 1, vs, h, hr => by
    rw [RepL] at hr
    obtain ⟨v, rest, rfl, h2, h3⟩ := hr
    rw [List.set_cons_succ]
    exact RepL.cons h2 (repL_set_less hxy (by simpa using h) h3)
theorem sub_less_at {c : Ctx} {s : St} (b n : Nat) {l : List AV} {x y : AV} (hb : s.H[b]? = some (.cells l)) (hn : l[n]? = some x) (hxy : Less x y) : Sub c s { s with H := s.H.set b (.cells (l.set n y)) } :=
  sub_recell hb fun _ _ _ _ h => repL_set_less hxy hn h
theorem store_at {l : List AV} {n : Nat} (h : n < l.length) (x : AV) : l.take (0 + n * 1) ++ [x] ++ l.drop (0 + n * 1 + [x].length) = l.set n x := by
  rw [List.set_eq_take_append_cons_drop, if_pos h]; simp
def prI : Nat → Int
  | 0 => -1
  | n + 1 => n
@[simp] theorem prI_succ (n : Nat) : prI (n + 1) = n := rfl
theorem prI_down (n : Nat) : (n : Int) - 1 = prI n := by cases n with
  | zero => rfl
  | succ m => show ((m + 1 : Nat) : Int) - 1 = (m : Int); omega
theorem prI_pos {n : Nat} (h : prI n ≥ 0) : ∃ m, n = m + 1 := by
  cases n with
  | zero => exact absurd h (by decide)
  | succ m => exact ⟨m, rfl⟩
theorem prI_no {n : Nat} (h : ¬ prI n ≥ 0) : n = 0 := by
  cases n with
  | zero => rfl
  | succ m => exact absurd (show (m : Int) ≥ 0 by omega) h
def xsL (p : Ply) (n : Nat) (a : List Int) : List Int := (ls p (n + 1)).map fun b => lefF (ls p) (stp p) (p.scs.length - 1 - (n + 1)) (n + 1) b + stp p n a b
def bvL (p : Ply) (n : Nat) (a : List Int) (k : Nat) : Int := if k = 0 then (if n + 1 = p.scs.length then 0 else -1) else mnK (xsL p n a) k
theorem xsL_len (p : Ply) (n : Nat) (a : List Int) : (xsL p n a).length = (ls p (n + 1)).length := by unfold xsL; simp
theorem xsL_get {p : Ply} {n k : Nat} {a : List Int} (h : k < (ls p (n + 1)).length) : (xsL p n a)[k]'(by rw [xsL_len]; exact h) = lefI p (n + 1) k + stp p n a (ls p (n + 1))[k] := by
  unfold xsL lefI; rw [List.getElem_map, getD_at h]
theorem bvL_last {p : Ply} {n i : Nat} (h : n + 1 = p.scs.length) (a : List Int) : bvL p n a 0 = lefI p n i := by
  unfold bvL; rw [if_pos rfl, if_pos h, show n = p.scs.length - 1 by omega, lefI_last]
theorem bvL_all {p : Ply} {n i : Nat} (h : n + 1 < p.scs.length) (hi : i < (ls p n).length) (hp : 0 < (ls p (n + 1)).length) : bvL p n (ls p n)[i] (ls p (n + 1)).length = lefI p n i := by
  unfold bvL; rw [if_neg (by omega), ← xsL_len p n, mnK_all]
  unfold lefI
  rw [show p.scs.length - 1 - n = (p.scs.length - 1 - (n + 1)) + 1 by omega, getD_at hi]
  rfl
theorem bvL_neg {p : Ply} {n k : Nat} {a : List Int} (h : n + 1 < p.scs.length) (hk : k = 0) : bvL p n a k = -1 := by unfold bvL; rw [if_pos hk, if_neg (by omega)]
theorem mnK_ge {l : List Int} (h : ∀ x ∈ l, 0 ≤ x) : ∀ {k : Nat}, 1 ≤ k → k ≤ l.length → 0 ≤ mnK l k
  | 1, _, h2 => by rw [mnK_1 (by omega)]; exact h _ (List.getElem_mem _)
  | k + 2, _, h2 => by
    rw [mnK_succ (by omega) (by omega)]
    have := mnK_ge h (k := k + 1) (by omega) (by omega)
    have := h _ (List.getElem_mem (show k + 1 < l.length by omega)); omega
theorem bvL_bd {p : Ply} (gP : PlB p) (hA : ∀ i, i < p.scs.length → ls p i ≠ []) {n k : Nat} {a : List Int} (h : n + 1 < p.scs.length) (hk : k ≤ (ls p (n + 1)).length) (h0 : 0 < k) : 0 ≤ bvL p n a k ∧ bvL p n a k ≤ 1000 := by
  have hx : ∀ x ∈ xsL p n a, 0 ≤ x ∧ x ≤ 1000 := fun x hx => by
    unfold xsL at hx
    obtain ⟨b, _, rfl⟩ := List.mem_map.1 hx
    have h1 := lefF_bd gP hA (p.scs.length - 1 - (n + 1)) (n + 1) b (by omega)
    have h2 := turns_bd gP (n := n) (by omega) a b
    have h3 := gP.ns
    omega
  have e : bvL p n a k = mnK (xsL p n a) k := by unfold bvL; rw [if_neg (by omega)]
  rw [e]
  have h1 := mnK_ge (fun x q => (hx x q).1) h0 (by rw [xsL_len]; exact hk)
  refine ⟨h1, ?_⟩
  have : ∀ {l : List Int} (_ : ∀ x ∈ l, x ≤ 1000) {k : Nat}, 1 ≤ k → k ≤ l.length → mnK l k ≤ 1000 := by
    intro l hl k
    induction k with
    | zero => intro h; omega
    | succ k ih =>
      intro _ h2
      rcases Nat.eq_zero_or_pos k with q | q
      · subst q; rw [mnK_1 (by omega)]; exact hl _ (List.getElem_mem _)
      · rw [mnK_succ q (by omega)]; have := ih q (by omega); omega
  exact this (fun x q => (hx x q).2) h0 (by rw [xsL_len]; exact hk)
theorem bvL_step1 {p : Ply} {n k : Nat} {a : List Int} (h : n + 1 < p.scs.length) (hk : k < (ls p (n + 1)).length) {v : Int} (hv : v = lefI p (n + 1) k + stp p n a (ls p (n + 1))[k]) (h0 : k = 0 ∨ v < bvL p n a k) : bvL p n a (k + 1) = v := by
  have e : bvL p n a (k + 1) = mnK (xsL p n a) (k + 1) := by unfold bvL; rw [if_neg (by omega)]
  rw [e]
  rcases Nat.eq_zero_or_pos k with q | q
  · subst q; rw [mnK_1 (by rw [xsL_len]; exact hk), xsL_get hk, hv]
  · have e2 : bvL p n a k = mnK (xsL p n a) k := by unfold bvL; rw [if_neg (by omega)]
    rw [mnK_succ q (by rw [xsL_len]; exact hk), xsL_get hk, ← hv, ← e2]
    have : v < bvL p n a k := by rcases h0 with h0 | h0; omega; exact h0
    omega
theorem bvL_step2 {p : Ply} {n k : Nat} {a : List Int} (hk : k < (ls p (n + 1)).length) {v : Int} (hv : v = lefI p (n + 1) k + stp p n a (ls p (n + 1))[k]) (hq : 0 < k) (h0 : ¬ v < bvL p n a k) : bvL p n a (k + 1) = bvL p n a k := by
  have e : bvL p n a (k + 1) = mnK (xsL p n a) (k + 1) := by unfold bvL; rw [if_neg (by omega)]
  have e2 : bvL p n a k = mnK (xsL p n a) k := by unfold bvL; rw [if_neg (by omega)]
  rw [e, mnK_succ hq (by rw [xsL_len]; exact hk), xsL_get hk, ← hv, ← e2]
  omega
theorem bvL_big {p : Ply} (gP : PlB p) (hA : ∀ i, i < p.scs.length → ls p i ≠ []) {n k : Nat} {a : List Int} (h : n + 1 < p.scs.length) (hk : k ≤ (ls p (n + 1)).length) (hn : bvL p n a k < 0) : k = 0 := by
  rcases Nat.eq_zero_or_pos k with q | q
  · exact q
  · have := (bvL_bd gP hA h hk q (a := a)).1; omega
theorem rrest_pure {p : Ply} (gP : PlB p) (hA : ∀ i, i < p.scs.length → ls p i ≠ []) : APure Tryz.prog 124 [plA p] (.tup [.sl 1 ((List.range p.scs.length).map fun i => [ints (lrow p i)]), .sl 1 ((List.range p.scs.length).map (fun i => [hds (ls p i)]))]) := by
  refine ap Tryz.func124 (fun e0 he0 => ?_)
  refine vz 3 ?_
  refine sq_nil ?_
  refine aw_seq ?_
  have hns := gP.ns
  refine vz 2 ?_
  refine sq_nil ?_
  refine aw_block ?_
  refine aw_sub (sub_token 4 1 jz) ?_
  refine aw_loopk (ι := { k : Nat // k ≤ p.scs.length }) [1] (fun i => [(5, I i.1), (4, .own 1 1 (((List.range i.1)).map fun i => [hds (ls p i)]))]) (fun H i => H.set 1 (.tok (((List.range i.1)).map fun i => [hds (ls p i)]).length)) (fun i => p.scs.length - i.1) (⟨0, Nat.zero_le _⟩) ⟨jz, jz, jz, trivial⟩ rfl ?_
  rintro ⟨k, hk⟩
  refine nz ?_
  refine wz 5 ?_
  refine iz (fun c_16 c_16' => ?_) (fun c_16 c_16' => ?_)
  ·have hkl : k < p.scs.length := by omega
   have eS : (List.range (k + 1)).map (fun i => [hds (ls p i)]) = (List.range k).map (fun i => [hds (ls p i)]) ++ [[hds (ls p k)]] := rng_app _ k
   refine wz 3 ?_
   refine kz az (rall_pure gP hkl (sc_ok gP hkl).1 (sc_ok gP hkl).2) ?_
   refine sq_ev rfl (ev_buildSlice (es := [[_]]) sf106.h rfl rfl rfl rfl) ?_
   first | refine sq_append rfl sf106.h Tryz.underlying106 rfl rfl jz (Nat.succ_pos _) (by simp; omega) (by simp; omega) ?_ | refine sq_append rfl sf106.h Tryz.underlying106 rfl rfl (less_slx _ _) (Nat.succ_pos _) (by simp; omega) (by simp; omega) ?_
   refine wz 4 ?_
   exact ⟨⟨k + 1, by omega⟩, by simp only; omega, sb 2 ⟨jz, Less.eq (by rw [eS] <;> rfl), jz, trivial⟩ (hH := (congrArg (fun n => [_, AObj.tok n]) (congrArg List.length eS.symm)))⟩
  obtain rfl : k = p.scs.length := by omega
  refine wz 1 ?_
  refine sq_ev rfl (ev_less (ev_len_map sl106.h (less_own _ _ _)) (Less.eq (b := I p.scs.length) (by simp))) ?_
  refine sq_make (n := p.scs.length) rfl (mk61 _ (by omega)) (by omega) jz jz ?_
  refine wz 2 ?_
  refine sq_ev rfl (ev_less (ev_len_map sl106.h (less_own _ _ _)) (Less.eq (b := I p.scs.length) (by simp))) ?_
  refine vz 2 ?_
  refine sq_nil ?_
  refine aw_block ?_
  refine nz ?_
  refine aw_sub (Sub.less (sl' := [(1, .ptr 0 0), (4, .sl 1 ((List.range p.scs.length).map (fun i => [hds (ls p i)]))), (6, .msl 2 0 p.scs.length p.scs.length), (7, I ((p.scs.length : Int) - 1))]) (fun q hq => ?_)) ?_
  ·simp only [List.mem_cons, List.not_mem_nil, or_false] at hq; rcases hq with rfl | rfl | rfl | rfl; exact jz; exact less_own _ _ _; exact jz; exact jz
  refine nz ?_
  refine aw_loopk (ι := { n : Nat // n ≤ p.scs.length }) [1, 4, 6] (fun g => [(7, I (prI g.1))]) (fun H g => [.cells (plC p), .tok ((List.range p.scs.length).map (fun i => [hds (ls p i)])).length, .cells (rcL p p.scs.length g.1)]) (fun g => g.1) (⟨p.scs.length, Nat.le_refl _⟩) ⟨(by exact less_int (by rw [show p.scs.length = (p.scs.length - 1) + 1 by omega, prI_succ]; omega)), jz, jz, jz, trivial⟩ (by show _ = _; rw [← made_rc]; rfl) ?_
  rintro ⟨n0, hn⟩
  refine nz ?_
  refine wz 2 ?_
  refine iz (fun c_32 c_32' => ?_) (fun c_32 c_32' => ?_)
  ·obtain ⟨n, rfl⟩ := prI_pos (of_decide_eq_true c_32)
   have hpr : prI (n + 1) = (n : Int) := rfl
   have hnl : n < p.scs.length := by omega
   refine nz ?_
   refine vz 1 ?_
   refine sq_nil ?_
   refine aw_block ?_
   refine aw_sub (sub_tok_at 2 n 1 (l := rcL p p.scs.length (n + 1)) rfl (by rw [rcL_get hnl, if_neg (by omega)])) ?_
   refine aw_loopk (ι := { i : Nat // i ≤ (ls p n).length }) [1, 4, 6, 7] (fun y => [(8, I y.1)]) (fun H y => [.cells (plC p), .tok ((List.range p.scs.length).map (fun i => [hds (ls p i)])).length, .cells ((rcL p p.scs.length (n + 1)).set n (.own 3 1 (((lrow p n).take y.1).map fun x => [I x]))), .tok (((lrow p n).take y.1).map fun x => [I x]).length]) (fun y => (ls p n).length - y.1) (⟨0, Nat.zero_le _⟩) ⟨jz, jz, jz, jz, jz, trivial⟩ rfl ?_
   rintro ⟨i, hi⟩
   refine nz ?_
   have hal : (ls p n).length ≤ 1296 := arr_len gP (sc_B gP hnl) true
   have hlr := lrow_len p n
   refine wz 3 ?_
   refine sq_ev rfl (ev_less (ev_index_map (k := n) (xs := List.range p.scs.length) sl106.h jz jz (by simp) (by simp; omega)) (Less.eq (b := .iptr [hds (ls p (n))]) (by simp))) ?_
   refine wz 3 ?_
   refine iz (fun c_41 c_41' => ?_) (fun c_41 c_41' => ?_)
   ·have hil : i < (ls p n).length := by omega
    refine wz 3 ?_
    refine sq_ev rfl (ev_less (ev_len_map sl106.h (jz)) (Less.eq (b := I p.scs.length) (by simp))) ?_
    refine wz 2 ?_
    refine iz (fun c_48 c_48' => ?_) (fun c_48 c_48' => ?_)
    ·have hla : n + 1 = p.scs.length := by omega
     refine wz 2 ?_
     refine aw_loopk (ι := { k : Nat // (k = 0 ∨ n + 1 < p.scs.length) ∧ k ≤ (ls p (n + 1)).length }) [1, 4, 6, 7, 8] (fun u => [(9, I (bvL p n (ls p n)[i] u.1)), (10, I u.1)]) (fun H u => H) (fun u => (ls p (n + 1)).length - u.1) (⟨0, .inl rfl, Nat.zero_le _⟩) ⟨(by exact less_int (by unfold bvL; simp; omega)), jz, jz, jz, jz, jz, jz, trivial⟩ rfl ?_
     rintro ⟨k, hk0, hk⟩
     refine nz ?_
     refine wz 2 ?_
     refine sq_ev rfl (ev_less (ev_len_map sl106.h (jz)) (Less.eq (b := I p.scs.length) (by simp))) ?_
     refine wz 3 ?_
     refine sz 54 (fun g17_5 g17_5' => ?_) (fun g17_5 g17_5' => ?_)
     ·have hn1 : n + 1 < p.scs.length := by omega
      have hal1 : (ls p (n + 1)).length ≤ 1296 := arr_len gP (sc_B gP hn1) true
      refine wz 4 ?_
      refine sq_yes rfl rfl (less_b g17_5) rfl (ev_less (ev_index_map (k := n + 1) (xs := List.range p.scs.length) sl106.h jz jz (by simp) (by simp; omega)) (Less.eq (b := .iptr [hds (ls p (n + 1))]) (by simp))) ?_
      refine wz 4 ?_
      refine iz (fun c_63 c_63' => ?_) (fun c_63 c_63' => ?_)
      ·have hkl : k < (ls p (n + 1)).length := by omega
       have htb := turns_bd gP (n := n) (by omega) (ls p n)[i] (ls p (n + 1))[k]
       have hlb := lefI_bd gP hA k hn1
       refine wz 0 ?_
       refine aw_draw 28 mo (by kernel_rfl) ?_
       refine dz 4 ?_
       refine dr_ev rfl (ev_less (ev_index_map (k := n) (xs := List.range p.scs.length) sl106.h jz jz (by simp) (by simp; omega)) (Less.eq (b := .iptr [hds (ls p (n))]) (by simp))) ?_
       refine dz 2 ?_
       refine dr_ev rfl (ev_index_map (k := i) (xs := ls p n) sl61.h jz jz rfl hil) ?_
       refine dz 4 ?_
       refine dr_ev rfl (ev_less (ev_index_map (k := n + 1) (xs := List.range p.scs.length) sl106.h jz jz (by simp) (by simp; omega)) (Less.eq (b := .iptr [hds (ls p (n + 1))]) (by simp))) ?_
       refine dz 2 ?_
       refine dr_ev rfl (ev_index_map (k := k) (xs := ls p (n + 1)) sl61.h jz jz rfl hkl) ?_
       refine dz 1 ?_
       refine dkz az (rstep_pure gP (n := n) hn1 (mem_arr.1 (List.getElem_mem hil)).1 (mem_arr.1 (List.getElem_mem hkl)).1) ?_
       refine dz 3 ?_
       refine dr_ev rfl (ev_index_msl (k := n + 1) sl61.h jz jz (by simp) hn1) ?_
       refine dr_ev rfl (ev_load (v := ints (lrow p (n + 1))) jz rfl ty22.h (by rw [List.getElem?_set_ne (by omega), show 0 + (n + 1) * 1 = n + 1 by omega, rcL_get hn1, if_pos (by omega)])) ?_
       refine dz 1 ?_
       refine dr_ev rfl (ev_less (ev_index_map (k := k) (xs := lrow p (n + 1)) sl22.h jz jz rfl (by rw [lrow_len]; exact hkl)) (Less.eq (b := .iptr [I (lefI p (n + 1) k)]) (by rw [lrow_get hkl]))) ?_
       refine dz 3 ?_
       refine wz 3 ?_
       refine sz 95 (fun g20_2 g20_2' => ?_) (fun g20_2 g20_2' => ?_)
       ·have ebv := bvL_step1 (a := (ls p n)[i]) hn1 hkl (v := stp p n (ls p n)[i] (ls p (n + 1))[k] + lefI p (n + 1) k) (Int.add_comm _ _) (.inl (bvL_big gP hA hn1 hk (of_decide_eq_true g20_2)))
        refine wz 10 ?_
        exact ⟨⟨k + 1, .inr hn1, by omega⟩, by simp only; omega, Sub.slots ⟨(by exact less_int ebv.symm), jz, jz, jz, jz, jz, jz, trivial⟩⟩
       refine wz 4 ?_
       refine iz (fun c_99 c_99' => ?_) (fun c_99 c_99' => ?_)
       ·have ebv := bvL_step1 (a := (ls p n)[i]) hn1 hkl (v := stp p n (ls p n)[i] (ls p (n + 1))[k] + lefI p (n + 1) k) (Int.add_comm _ _) (.inr (of_decide_eq_true c_99))
        refine wz 5 ?_
        exact ⟨⟨k + 1, .inr hn1, by omega⟩, by simp only; omega, Sub.slots ⟨(by exact less_int ebv.symm), jz, jz, jz, jz, jz, jz, trivial⟩⟩
       have hk1 : 0 < k := by (rcases Nat.eq_zero_or_pos k with q | q; (have := bvL_neg (a := (ls p n)[i]) hn1 q; omega); exact q)
       have ebv := bvL_step2 (a := (ls p n)[i]) hkl (v := stp p n (ls p n)[i] (ls p (n + 1))[k] + lefI p (n + 1) k) (Int.add_comm _ _) hk1 (of_decide_eq_false c_99)
       refine wz 3 ?_
       exact ⟨⟨k + 1, .inr hn1, by omega⟩, by simp only; omega, Sub.slots ⟨(by exact less_int ebv.symm), jz, jz, jz, jz, jz, jz, trivial⟩⟩
      obtain rfl : k = (ls p (n + 1)).length := by omega
      have ebv : bvL p n (ls p n)[i] (ls p (n + 1)).length = lefI p n i := bvL_all hn1 hil (List.length_pos_iff.2 (hA _ hn1))
      have eS : ((lrow p n).take (i + 1)).map (fun x => [I x]) = ((lrow p n).take i).map (fun x => [I x]) ++ [[I (lefI p n i)]] := by rw [lrow_succ hil, List.map_append]; rfl
      have eP : (((rcL p p.scs.length (n + 1)).set n (.own 3 1 (((lrow p n).take i).map fun x => [I x]))).take (0 + n * 1) ++ [AV.own 3 1 ((((lrow p n).take i).map fun x => [I x]) ++ [[I (lefI p n i)]])] ++ ((rcL p p.scs.length (n + 1)).set n (.own 3 1 (((lrow p n).take i).map fun x => [I x]))).drop (0 + n * 1 + [AV.own 3 1 ((((lrow p n).take i).map fun x => [I x]) ++ [[I (lefI p n i)]])].length), ((((lrow p n).take i).map fun x => [I x]) ++ [[I (lefI p n i)]]).length) = ((rcL p p.scs.length (n + 1)).set n (.own 3 1 (((lrow p n).take (i + 1)).map fun x => [I x])), (((lrow p n).take (i + 1)).map fun x => [I x]).length) := by rw [store_at (by rw [List.length_set, rcL_len]; exact hnl), List.set_set, eS]
      refine wz 4 ?_
      refine sq_ev rfl (ev_index_msl (k := n) sl61.h jz jz rfl hnl) ?_
      refine sq_ev rfl (ev_load (v := .own 3 1 (((lrow p n).take i).map fun x => [I x])) jz rfl ty22.h (by rw [show 0 + n * 1 = n by omega, List.getElem?_set_self (by rw [rcL_len]; exact hnl)])) ?_
      refine wz 1 ?_
      refine sq_ev rfl (ev_less (ev_buildSlice (es := [[_]]) sf22.h rfl rfl rfl rfl) (Less.eq (b := .slx 1 [[I (lefI p n i)]]) (by rw [← ebv]))) ?_
      refine sq_append rfl sf22.h Tryz.underlying22 rfl rfl (less_slx _ _) (Nat.succ_pos _) (by simp; omega) (by simp; omega) ?_
      refine sq_ev rfl (ev_index_msl (k := n) sl61.h jz jz rfl hnl) ?_
      refine sq_store (j := 2) (off := 0 + n * 1) rfl jz jz rfl rfl ty22.h rfl (Nat.ble_eq_true_of_le (by rw [List.length_set, rcL_len]; omega)) ?_
      refine wz 3 ?_
      exact ⟨⟨i + 1, by omega⟩, by simp only; omega, sb 4 ⟨jz, jz, jz, jz, jz, trivial⟩ (hH := (congrArg (fun z : List AV × Nat => [_, _, AObj.cells z.1, AObj.tok z.2]) eP)) (h2 := (by simp [objsIn, AObj.inB, AV.inB, AV.inL, -List.map_take, row_in]))⟩
     have hn1 : n + 1 = p.scs.length := by omega
     obtain rfl : k = 0 := by omega
     have ebv : bvL p n (ls p n)[i] 0 = lefI p n i := bvL_last hn1 _
     have eS : ((lrow p n).take (i + 1)).map (fun x => [I x]) = ((lrow p n).take i).map (fun x => [I x]) ++ [[I (lefI p n i)]] := by rw [lrow_succ hil, List.map_append]; rfl
     have eP : (((rcL p p.scs.length (n + 1)).set n (.own 3 1 (((lrow p n).take i).map fun x => [I x]))).take (0 + n * 1) ++ [AV.own 3 1 ((((lrow p n).take i).map fun x => [I x]) ++ [[I (lefI p n i)]])] ++ ((rcL p p.scs.length (n + 1)).set n (.own 3 1 (((lrow p n).take i).map fun x => [I x]))).drop (0 + n * 1 + [AV.own 3 1 ((((lrow p n).take i).map fun x => [I x]) ++ [[I (lefI p n i)]])].length), ((((lrow p n).take i).map fun x => [I x]) ++ [[I (lefI p n i)]]).length) = ((rcL p p.scs.length (n + 1)).set n (.own 3 1 (((lrow p n).take (i + 1)).map fun x => [I x])), (((lrow p n).take (i + 1)).map fun x => [I x]).length) := by rw [store_at (by rw [List.length_set, rcL_len]; exact hnl), List.set_set, eS]
     refine wz 14 ?_
     refine sq_ev rfl (ev_index_msl (k := n) sl61.h jz jz rfl hnl) ?_
     refine sq_ev rfl (ev_load (v := .own 3 1 (((lrow p n).take i).map fun x => [I x])) jz rfl ty22.h (by rw [show 0 + n * 1 = n by omega, List.getElem?_set_self (by rw [rcL_len]; exact hnl)])) ?_
     refine wz 1 ?_
     refine sq_ev rfl (ev_less (ev_buildSlice (es := [[_]]) sf22.h rfl rfl rfl rfl) (Less.eq (b := .slx 1 [[I (lefI p n i)]]) (by rw [← ebv]))) ?_
     refine sq_append rfl sf22.h Tryz.underlying22 rfl rfl (less_slx _ _) (Nat.succ_pos _) (by simp; omega) (by simp; omega) ?_
     refine sq_ev rfl (ev_index_msl (k := n) sl61.h jz jz rfl hnl) ?_
     refine sq_store (j := 2) (off := 0 + n * 1) rfl jz jz rfl rfl ty22.h rfl (Nat.ble_eq_true_of_le (by rw [List.length_set, rcL_len]; omega)) ?_
     refine wz 3 ?_
     exact ⟨⟨i + 1, by omega⟩, by simp only; omega, sb 4 ⟨jz, jz, jz, jz, jz, trivial⟩ (hH := (congrArg (fun z : List AV × Nat => [_, _, AObj.cells z.1, AObj.tok z.2]) eP)) (h2 := (by simp [objsIn, AObj.inB, AV.inB, AV.inL, -List.map_take, row_in]))⟩
    have hla : ¬ n + 1 = p.scs.length := by omega
    refine wz 1 ?_
    refine aw_loopk (ι := { k : Nat // (k = 0 ∨ n + 1 < p.scs.length) ∧ k ≤ (ls p (n + 1)).length }) [1, 4, 6, 7, 8] (fun u => [(9, I (bvL p n (ls p n)[i] u.1)), (10, I u.1)]) (fun H u => H) (fun u => (ls p (n + 1)).length - u.1) (⟨0, .inl rfl, Nat.zero_le _⟩) ⟨(by exact less_int (by unfold bvL; simp; omega)), jz, jz, jz, jz, jz, jz, trivial⟩ rfl ?_
    rintro ⟨k, hk0, hk⟩
    refine nz ?_
    refine wz 2 ?_
    refine sq_ev rfl (ev_less (ev_len_map sl106.h (jz)) (Less.eq (b := I p.scs.length) (by simp))) ?_
    refine wz 3 ?_
    refine sz 54 (fun g17_5 g17_5' => ?_) (fun g17_5 g17_5' => ?_)
    ·have hn1 : n + 1 < p.scs.length := by omega
     have hal1 : (ls p (n + 1)).length ≤ 1296 := arr_len gP (sc_B gP hn1) true
     refine wz 4 ?_
     refine sq_yes rfl rfl (less_b g17_5) rfl (ev_less (ev_index_map (k := n + 1) (xs := List.range p.scs.length) sl106.h jz jz (by simp) (by simp; omega)) (Less.eq (b := .iptr [hds (ls p (n + 1))]) (by simp))) ?_
     refine wz 4 ?_
     refine iz (fun c_63 c_63' => ?_) (fun c_63 c_63' => ?_)
     ·have hkl : k < (ls p (n + 1)).length := by omega
      have htb := turns_bd gP (n := n) (by omega) (ls p n)[i] (ls p (n + 1))[k]
      have hlb := lefI_bd gP hA k hn1
      refine wz 0 ?_
      refine aw_draw 28 mo (by kernel_rfl) ?_
      refine dz 4 ?_
      refine dr_ev rfl (ev_less (ev_index_map (k := n) (xs := List.range p.scs.length) sl106.h jz jz (by simp) (by simp; omega)) (Less.eq (b := .iptr [hds (ls p (n))]) (by simp))) ?_
      refine dz 2 ?_
      refine dr_ev rfl (ev_index_map (k := i) (xs := ls p n) sl61.h jz jz rfl hil) ?_
      refine dz 4 ?_
      refine dr_ev rfl (ev_less (ev_index_map (k := n + 1) (xs := List.range p.scs.length) sl106.h jz jz (by simp) (by simp; omega)) (Less.eq (b := .iptr [hds (ls p (n + 1))]) (by simp))) ?_
      refine dz 2 ?_
      refine dr_ev rfl (ev_index_map (k := k) (xs := ls p (n + 1)) sl61.h jz jz rfl hkl) ?_
      refine dz 1 ?_
      refine dkz az (rstep_pure gP (n := n) hn1 (mem_arr.1 (List.getElem_mem hil)).1 (mem_arr.1 (List.getElem_mem hkl)).1) ?_
      refine dz 3 ?_
      refine dr_ev rfl (ev_index_msl (k := n + 1) sl61.h jz jz (by simp) hn1) ?_
      refine dr_ev rfl (ev_load (v := ints (lrow p (n + 1))) jz rfl ty22.h (by rw [List.getElem?_set_ne (by omega), show 0 + (n + 1) * 1 = n + 1 by omega, rcL_get hn1, if_pos (by omega)])) ?_
      refine dz 1 ?_
      refine dr_ev rfl (ev_less (ev_index_map (k := k) (xs := lrow p (n + 1)) sl22.h jz jz rfl (by rw [lrow_len]; exact hkl)) (Less.eq (b := .iptr [I (lefI p (n + 1) k)]) (by rw [lrow_get hkl]))) ?_
      refine dz 3 ?_
      refine wz 3 ?_
      refine sz 95 (fun g20_2 g20_2' => ?_) (fun g20_2 g20_2' => ?_)
      ·have ebv := bvL_step1 (a := (ls p n)[i]) hn1 hkl (v := stp p n (ls p n)[i] (ls p (n + 1))[k] + lefI p (n + 1) k) (Int.add_comm _ _) (.inl (bvL_big gP hA hn1 hk (of_decide_eq_true g20_2)))
       refine wz 10 ?_
       exact ⟨⟨k + 1, .inr hn1, by omega⟩, by simp only; omega, Sub.slots ⟨(by exact less_int ebv.symm), jz, jz, jz, jz, jz, jz, trivial⟩⟩
      refine wz 4 ?_
      refine iz (fun c_99 c_99' => ?_) (fun c_99 c_99' => ?_)
      ·have ebv := bvL_step1 (a := (ls p n)[i]) hn1 hkl (v := stp p n (ls p n)[i] (ls p (n + 1))[k] + lefI p (n + 1) k) (Int.add_comm _ _) (.inr (of_decide_eq_true c_99))
       refine wz 5 ?_
       exact ⟨⟨k + 1, .inr hn1, by omega⟩, by simp only; omega, Sub.slots ⟨(by exact less_int ebv.symm), jz, jz, jz, jz, jz, jz, trivial⟩⟩
      have hk1 : 0 < k := by (rcases Nat.eq_zero_or_pos k with q | q; (have := bvL_neg (a := (ls p n)[i]) hn1 q; omega); exact q)
      have ebv := bvL_step2 (a := (ls p n)[i]) hkl (v := stp p n (ls p n)[i] (ls p (n + 1))[k] + lefI p (n + 1) k) (Int.add_comm _ _) hk1 (of_decide_eq_false c_99)
      refine wz 3 ?_
      exact ⟨⟨k + 1, .inr hn1, by omega⟩, by simp only; omega, Sub.slots ⟨(by exact less_int ebv.symm), jz, jz, jz, jz, jz, jz, trivial⟩⟩
     obtain rfl : k = (ls p (n + 1)).length := by omega
     have ebv : bvL p n (ls p n)[i] (ls p (n + 1)).length = lefI p n i := bvL_all hn1 hil (List.length_pos_iff.2 (hA _ hn1))
     have eS : ((lrow p n).take (i + 1)).map (fun x => [I x]) = ((lrow p n).take i).map (fun x => [I x]) ++ [[I (lefI p n i)]] := by rw [lrow_succ hil, List.map_append]; rfl
     have eP : (((rcL p p.scs.length (n + 1)).set n (.own 3 1 (((lrow p n).take i).map fun x => [I x]))).take (0 + n * 1) ++ [AV.own 3 1 ((((lrow p n).take i).map fun x => [I x]) ++ [[I (lefI p n i)]])] ++ ((rcL p p.scs.length (n + 1)).set n (.own 3 1 (((lrow p n).take i).map fun x => [I x]))).drop (0 + n * 1 + [AV.own 3 1 ((((lrow p n).take i).map fun x => [I x]) ++ [[I (lefI p n i)]])].length), ((((lrow p n).take i).map fun x => [I x]) ++ [[I (lefI p n i)]]).length) = ((rcL p p.scs.length (n + 1)).set n (.own 3 1 (((lrow p n).take (i + 1)).map fun x => [I x])), (((lrow p n).take (i + 1)).map fun x => [I x]).length) := by rw [store_at (by rw [List.length_set, rcL_len]; exact hnl), List.set_set, eS]
     refine wz 4 ?_
     refine sq_ev rfl (ev_index_msl (k := n) sl61.h jz jz rfl hnl) ?_
     refine sq_ev rfl (ev_load (v := .own 3 1 (((lrow p n).take i).map fun x => [I x])) jz rfl ty22.h (by rw [show 0 + n * 1 = n by omega, List.getElem?_set_self (by rw [rcL_len]; exact hnl)])) ?_
     refine wz 1 ?_
     refine sq_ev rfl (ev_less (ev_buildSlice (es := [[_]]) sf22.h rfl rfl rfl rfl) (Less.eq (b := .slx 1 [[I (lefI p n i)]]) (by rw [← ebv]))) ?_
     refine sq_append rfl sf22.h Tryz.underlying22 rfl rfl (less_slx _ _) (Nat.succ_pos _) (by simp; omega) (by simp; omega) ?_
     refine sq_ev rfl (ev_index_msl (k := n) sl61.h jz jz rfl hnl) ?_
     refine sq_store (j := 2) (off := 0 + n * 1) rfl jz jz rfl rfl ty22.h rfl (Nat.ble_eq_true_of_le (by rw [List.length_set, rcL_len]; omega)) ?_
     refine wz 3 ?_
     exact ⟨⟨i + 1, by omega⟩, by simp only; omega, sb 4 ⟨jz, jz, jz, jz, jz, trivial⟩ (hH := (congrArg (fun z : List AV × Nat => [_, _, AObj.cells z.1, AObj.tok z.2]) eP)) (h2 := (by simp [objsIn, AObj.inB, AV.inB, AV.inL, -List.map_take, row_in]))⟩
    have hn1 : n + 1 = p.scs.length := by omega
    obtain rfl : k = 0 := by omega
    have ebv : bvL p n (ls p n)[i] 0 = lefI p n i := bvL_last hn1 _
    have eS : ((lrow p n).take (i + 1)).map (fun x => [I x]) = ((lrow p n).take i).map (fun x => [I x]) ++ [[I (lefI p n i)]] := by rw [lrow_succ hil, List.map_append]; rfl
    have eP : (((rcL p p.scs.length (n + 1)).set n (.own 3 1 (((lrow p n).take i).map fun x => [I x]))).take (0 + n * 1) ++ [AV.own 3 1 ((((lrow p n).take i).map fun x => [I x]) ++ [[I (lefI p n i)]])] ++ ((rcL p p.scs.length (n + 1)).set n (.own 3 1 (((lrow p n).take i).map fun x => [I x]))).drop (0 + n * 1 + [AV.own 3 1 ((((lrow p n).take i).map fun x => [I x]) ++ [[I (lefI p n i)]])].length), ((((lrow p n).take i).map fun x => [I x]) ++ [[I (lefI p n i)]]).length) = ((rcL p p.scs.length (n + 1)).set n (.own 3 1 (((lrow p n).take (i + 1)).map fun x => [I x])), (((lrow p n).take (i + 1)).map fun x => [I x]).length) := by rw [store_at (by rw [List.length_set, rcL_len]; exact hnl), List.set_set, eS]
    refine wz 14 ?_
    refine sq_ev rfl (ev_index_msl (k := n) sl61.h jz jz rfl hnl) ?_
    refine sq_ev rfl (ev_load (v := .own 3 1 (((lrow p n).take i).map fun x => [I x])) jz rfl ty22.h (by rw [show 0 + n * 1 = n by omega, List.getElem?_set_self (by rw [rcL_len]; exact hnl)])) ?_
    refine wz 1 ?_
    refine sq_ev rfl (ev_less (ev_buildSlice (es := [[_]]) sf22.h rfl rfl rfl rfl) (Less.eq (b := .slx 1 [[I (lefI p n i)]]) (by rw [← ebv]))) ?_
    refine sq_append rfl sf22.h Tryz.underlying22 rfl rfl (less_slx _ _) (Nat.succ_pos _) (by simp; omega) (by simp; omega) ?_
    refine sq_ev rfl (ev_index_msl (k := n) sl61.h jz jz rfl hnl) ?_
    refine sq_store (j := 2) (off := 0 + n * 1) rfl jz jz rfl rfl ty22.h rfl (Nat.ble_eq_true_of_le (by rw [List.length_set, rcL_len]; omega)) ?_
    refine wz 3 ?_
    exact ⟨⟨i + 1, by omega⟩, by simp only; omega, sb 4 ⟨jz, jz, jz, jz, jz, trivial⟩ (hH := (congrArg (fun z : List AV × Nat => [_, _, AObj.cells z.1, AObj.tok z.2]) eP)) (h2 := (by simp [objsIn, AObj.inB, AV.inB, AV.inL, -List.map_take, row_in]))⟩
   obtain rfl : i = (ls p n).length := by omega
   refine aw_sub (sub_less_at 2 n (l := ((rcL p p.scs.length (n + 1)).set n (.own 3 1 (((lrow p n).take (ls p n).length).map fun x => [I x])))) rfl (by rw [List.getElem?_set_self (by rw [rcL_len]; exact hnl)]) (less_own _ _ _)) ?_
   have eR : (((rcL p p.scs.length (n + 1)).set n (.own 3 1 (((lrow p n).take (ls p n).length).map fun x => [I x]))).set n (.sl 1 (((lrow p n).take (ls p n).length).map fun x => [I x]))) = rcL p p.scs.length n := by rw [List.set_set, ← lrow_len, List.take_length]; exact rcL_set hnl
   refine wz 3 ?_
   exact ⟨⟨n, by omega⟩, by simp only; omega, sb 3 ⟨(by exact less_int (prI_down n)), jz, jz, jz, trivial⟩ (hH := (congrArg (fun z => [_, _, AObj.cells z]) eR)) (h2 := (by simp [objsIn, AObj.inB, AV.inB, AV.inL, inL_rc]))⟩
  obtain rfl := prI_no (of_decide_eq_false c_32)
  refine aw_exit ?_
  refine aw_seq ?_
  refine aw_sub (sub_freeze (j := 2) (n := p.scs.length) (cap := p.scs.length) (sz := 1) (es := ((List.range p.scs.length).map fun i => [ints (lrow p i)])) (rest := []) (sl' := [(4, .sl 1 ((List.range p.scs.length).map (fun i => [hds (ls p i)]))), (6, .sl 1 ((List.range p.scs.length).map fun i => [ints (lrow p i)]))]) (by show some (AObj.cells (rcL p p.scs.length 0)) = _; rw [rcL_all]) (by simp) (fun q hq => by obtain ⟨i, _, rfl⟩ := List.mem_map.1 hq; rfl) (fun q hq => ?_) (FzH.same _ (by decide) (FzH.same _ (by decide) (FzH.dead _ rfl (FzH.nil _))))) ?_
  ·simp only [List.mem_cons, List.not_mem_nil, or_false] at hq; rcases hq with rfl | rfl; exact Fz.same _; exact Fz.frozen
  refine nz ?_
  refine wz 4 ?_
  exact retQ_pure (v := .tup [.sl _ _, .sl _ _]) rfl rfl (Less.eq (by simp))
end Go.Proofs.YtfmpabgblbbcdaaGreatDoor
namespace Go.Proofs.YtfmpabgblbbcdaaGreatDoor
open Go Go.Ab Ni St
open Hd hiding sz
instance en29 : EnT Tryz.prog 29 := ⟨Ent.of Tryz.func29 (by kernel_rfl) rfl⟩
instance en85 : EnT Tryz.prog 85 := ⟨Ent.of Tryz.func85 (by kernel_rfl) rfl⟩
def brow (p : Ply) (i : Nat) : List Int := (List.range (ls p i).length).map (befI p i)
theorem brow_len (p : Ply) (i : Nat) : (brow p i).length = (ls p i).length := by unfold brow; simp
theorem brow_get {p : Ply} {i j : Nat} (h : j < (ls p i).length) : (brow p i)[j]'(by rw [brow_len]; exact h) = befI p i j := by unfold brow; simp
theorem brow_succ {p : Ply} {i j : Nat} (h : j < (ls p i).length) : (brow p i).take (j + 1) = (brow p i).take j ++ [befI p i j] := by
  rw [List.take_succ_eq_append_getElem (by rw [brow_len]; exact h), brow_get h]
def totL (p : Ply) (i : Nat) : List Int := (List.range (ls p i).length).map fun j => befI p i j + lefI p i j
theorem totL_len (p : Ply) (i : Nat) : (totL p i).length = (ls p i).length := by unfold totL; simp
theorem totL_get {p : Ply} {i j : Nat} (h : j < (ls p i).length) : (totL p i)[j]'(by rw [totL_len]; exact h) = befI p i j + lefI p i j := by unfold totL; simp
theorem totL_succ {p : Ply} {i j : Nat} (h : j < (ls p i).length) : (totL p i).take (j + 1) = (totL p i).take j ++ [befI p i j + lefI p i j] := by
  rw [List.take_succ_eq_append_getElem (by rw [totL_len]; exact h), totL_get h]
theorem made_brow (p : Ply) : (List.replicate (ls p 0).length (Value.int .i64 0)).map AV.raw = ((brow p 0).map fun x => [I x]).flatten ++ [] := by
  unfold brow
  rw [List.append_nil, List.map_map]
  have : ∀ n : Nat, (List.replicate n (Value.int .i64 0)).map AV.raw = ((List.range n).map fun (_ : Nat) => [I 0]).flatten := by
    intro n
    induction n with
    | zero => rfl
    | succ n ih => rw [List.range_succ, List.map_append, List.flatten_append, ← ih, List.replicate_succ', List.map_append]; rfl
  rw [this]; rfl
def ysL (p : Ply) (m : Nat) (b : List Int) : List Int := (ls p m).map fun a => befF (ls p) (stp p) m a + stp p m a b
def cvL (p : Ply) (m : Nat) (b : List Int) (k : Nat) : Int := if k = 0 then -1 else mnK (ysL p m b) k
theorem ysL_len (p : Ply) (m : Nat) (b : List Int) : (ysL p m b).length = (ls p m).length := by unfold ysL; simp
theorem ysL_get {p : Ply} {m k : Nat} {b : List Int} (h : k < (ls p m).length) : (ysL p m b)[k]'(by rw [ysL_len]; exact h) = befI p m k + stp p m (ls p m)[k] b := by
  unfold ysL befI; rw [List.getElem_map, getD_at h]
theorem cvL_all {p : Ply} {m i : Nat} (hi : i < (ls p (m + 1)).length) (hp : 0 < (ls p m).length) : cvL p m (ls p (m + 1))[i] (ls p m).length = befI p (m + 1) i := by
  unfold cvL; rw [if_neg (by omega), ← ysL_len p m, mnK_all]
  unfold befI; rw [getD_at hi]; rfl
theorem cvL_bd {p : Ply} (gP : PlB p) (hA : ∀ i, i < p.scs.length → ls p i ≠ []) {m k : Nat} {b : List Int} (h : m + 1 < p.scs.length) (hk : k ≤ (ls p m).length) (h0 : 0 < k) : 0 ≤ cvL p m b k := by
  have hx : ∀ x ∈ ysL p m b, 0 ≤ x := fun x hx => by
    unfold ysL at hx
    obtain ⟨a, _, rfl⟩ := List.mem_map.1 hx
    have h1 := befF_bd gP hA m a (by omega)
    have h2 := turns_bd gP (n := m) (by omega) a b
    omega
  have e : cvL p m b k = mnK (ysL p m b) k := by unfold cvL; rw [if_neg (by omega)]
  rw [e]; exact mnK_ge hx h0 (by rw [ysL_len]; exact hk)
theorem cvL_big {p : Ply} (gP : PlB p) (hA : ∀ i, i < p.scs.length → ls p i ≠ []) {m k : Nat} {b : List Int} (h : m + 1 < p.scs.length) (hk : k ≤ (ls p m).length) (hn : cvL p m b k < 0) : k = 0 := by
  rcases Nat.eq_zero_or_pos k with q | q
  · exact q
  · have := cvL_bd gP hA h hk q (b := b); omega
theorem cvL_neg {p : Ply} {m k : Nat} {b : List Int} (hk : k = 0) : cvL p m b k = -1 := by unfold cvL; rw [if_pos hk]
theorem cvL_step1 {p : Ply} {m k : Nat} {b : List Int} (hk : k < (ls p m).length) {v : Int} (hv : v = befI p m k + stp p m (ls p m)[k] b) (h0 : k = 0 ∨ v < cvL p m b k) : cvL p m b (k + 1) = v := by
  have e : cvL p m b (k + 1) = mnK (ysL p m b) (k + 1) := by unfold cvL; rw [if_neg (by omega)]
  rw [e]
  rcases Nat.eq_zero_or_pos k with q | q
  · subst q; rw [mnK_1 (by rw [ysL_len]; exact hk), ysL_get hk, hv]
  · have e2 : cvL p m b k = mnK (ysL p m b) k := by unfold cvL; rw [if_neg (by omega)]
    rw [mnK_succ q (by rw [ysL_len]; exact hk), ysL_get hk, ← hv, ← e2]
    have : v < cvL p m b k := by rcases h0 with h0 | h0; omega; exact h0
    omega
theorem cvL_step2 {p : Ply} {m k : Nat} {b : List Int} (hk : k < (ls p m).length) {v : Int} (hv : v = befI p m k + stp p m (ls p m)[k] b) (hq : 0 < k) (h0 : ¬ v < cvL p m b k) : cvL p m b (k + 1) = cvL p m b k := by
  have e : cvL p m b (k + 1) = mnK (ysL p m b) (k + 1) := by unfold cvL; rw [if_neg (by omega)]
  have e2 : cvL p m b k = mnK (ysL p m b) k := by unfold cvL; rw [if_neg (by omega)]
  rw [e, mnK_succ hq (by rw [ysL_len]; exact hk), ysL_get hk, ← hv, ← e2]
  omega
end Go.Proofs.YtfmpabgblbbcdaaGreatDoor
namespace Go.Proofs.YtfmpabgblbbcdaaGreatDoor
open Go Go.Ab Ni St
open Hd hiding sz
def mn0 (l : List Int) (k : Nat) : Int := (l.take k).foldl min (l.headD 0)
theorem mn0_succ {l : List Int} {k : Nat} (h : k < l.length) : mn0 l (k + 1) = min (mn0 l k) l[k] := by
  unfold mn0; rw [List.take_succ_eq_append_getElem h, List.foldl_append]; rfl
theorem mn0_0 {l : List Int} (h : 0 < l.length) : mn0 l 0 = l[0] := by cases l with
  | nil => simp at h
  | cons a l => rfl
theorem mn0_all (l : List Int) : mn0 l l.length = mnL l := by
  unfold mn0; rw [List.take_length]
  cases l with
  | nil => rfl
  | cons a l => show l.foldl min (min a a) = l.foldl min a; rw [Int.min_self]
theorem ls_ne {p : Ply} (hA : ∀ i, i < p.scs.length → ls p i ≠ []) (n : Nat) : ls p n ≠ [] := by
  rcases Nat.lt_or_ge n p.scs.length with q | q
  · exact hA n q
  · have e : sc p n = ⟨[], [], 0, []⟩ := by unfold sc; simp [List.getD, List.getElem?_eq_none q]
    unfold ls arr; rw [e]; simp [dfs]
theorem tot_few {p : Ply} (hA : ∀ i, i < p.scs.length → ls p i ≠ []) {n : Nat} (hn : n < p.scs.length) : mnL (totL p n) = fewP p := by
  have hA2 := ls_ne hA
  have h1 := opt_thru (A := ls p) (s := stp p) hA2 (last := p.scs.length - 1) (n := n) (by omega)
  have e1 : totL p n = (ls p n).map (thru (ls p) (stp p) (p.scs.length - 1) n) := by
    refine List.ext_getElem (by simp [totL_len]) fun i h1 h2 => ?_
    rw [totL_len] at h1
    rw [totL_get h1, List.getElem_map]
    unfold thru befI lefI; rw [getD_at h1]
  have e2 : lefR p 0 = (ls p 0).map (lefF (ls p) (stp p) (p.scs.length - 1) 0) := by
    refine List.ext_getElem (by simp) fun i h1 h2 => ?_
    simp only [List.length_map, List.length_range] at h1
    simp only [List.getElem_map, List.getElem_range]
    unfold lefI; rw [getD_at h1]; rfl
  rw [e1, h1]; unfold fewP opt; rw [e2]
def smL (p : Ply) (n a : Nat) : Nat → List Int
  | 0 => []
  | i + 1 => if bstI p n i = true ∧ ¬ plcI p n a i ∈ smL p n a i then smL p n a i ++ [plcI p n a i] else smL p n a i
theorem smL_yes {p : Ply} {n a i : Nat} (h : bstI p n i = true) (h2 : ¬ plcI p n a i ∈ smL p n a i) : smL p n a (i + 1) = smL p n a i ++ [plcI p n a i] := by rw [smL, if_pos ⟨h, h2⟩]
theorem smL_no1 {p : Ply} {n a i : Nat} (h : bstI p n i = false) : smL p n a (i + 1) = smL p n a i := by rw [smL, if_neg (by rw [h]; simp)]
theorem smL_no2 {p : Ply} {n a i : Nat} (h : plcI p n a i ∈ smL p n a i) : smL p n a (i + 1) = smL p n a i := by rw [smL, if_neg (fun q => q.2 h)]
theorem smL_mem {p : Ply} {n a : Nat} : ∀ {i : Nat} {c : Int}, c ∈ smL p n a i ↔ ∃ j, j < i ∧ bstI p n j = true ∧ plcI p n a j = c
  | 0, c => by simp [smL]
  | i + 1, c => by
    have ih := smL_mem (p := p) (n := n) (a := a) (i := i) (c := c)
    have key : (∃ j, j < i + 1 ∧ bstI p n j = true ∧ plcI p n a j = c) ↔ (∃ j, j < i ∧ bstI p n j = true ∧ plcI p n a j = c) ∨ (bstI p n i = true ∧ plcI p n a i = c) := by
      constructor
      · rintro ⟨j, h1, h2⟩
        rcases Nat.lt_or_ge j i with q | q
        · exact .inl ⟨j, q, h2⟩
        · obtain rfl : j = i := by omega
          exact .inr h2
      · rintro (⟨j, h1, h2⟩ | h)
        · exact ⟨j, by omega, h2⟩
        · exact ⟨i, by omega, h⟩
    rw [key, ← ih]
    by_cases hb : bstI p n i = true
    · by_cases hm : plcI p n a i ∈ smL p n a i
      · rw [smL_no2 hm]
        exact ⟨.inl, fun h => by rcases h with h | h; exact h; exact h.2 ▸ hm⟩
      · rw [smL_yes hb hm, List.mem_append, List.mem_singleton]
        exact ⟨fun h => by rcases h with h | h; exact .inl h; exact .inr ⟨hb, h.symm⟩, fun h => by rcases h with h | h; exact .inl h; exact .inr h.2.symm⟩
    · rw [smL_no1 (by simpa using hb)]
      exact ⟨.inl, fun h => by rcases h with h | h; exact h; exact absurd h.1 hb⟩
theorem smL_met {p : Ply} {n a m k : Nat} : (k : Int) ∈ smL p n a m ↔ metB p n a m k = true := by
  rw [smL_mem]; unfold metB; rw [decide_eq_true_eq]
theorem smL_mny {p : Ply} {n a : Nat} : ∀ {m : Nat}, m ≤ (ls p n).length → (∀ i, i < (ls p n).length → 0 ≤ plcI p n a i ∧ plcI p n a i < p.hts.length) → (smL p n a m).length = mny (metK p n a m)
  | 0, _, _ => by rw [mny_zero]; rfl
  | m + 1, h, hr => by
    have ih := smL_mny (p := p) (n := n) (a := a) (m := m) (by omega) hr
    obtain ⟨c, hc⟩ : ∃ c : Nat, plcI p n a m = (c : Int) := ⟨(plcI p n a m).toNat, by have := hr m (by omega); omega⟩
    have hcl : c < p.hts.length := by have := hr m (by omega); omega
    by_cases hb : bstI p n m = true
    · by_cases hm : plcI p n a m ∈ smL p n a m
      · rw [smL_no2 hm, ih, metK_old hc (smL_met.1 (hc ▸ hm))]
      · rw [smL_yes hb hm, List.length_append, ih, metK_new hb hc hcl, mny_set (by rw [metK_len]; exact hcl)]; rfl
        rw [metK_get hcl]
        cases e : metB p n a m c with
        | false => rfl
        | true => exact absurd (hc ▸ smL_met.2 e) hm
    · rw [smL_no1 (by simpa using hb), ih, metK_no (by simpa using hb)]
theorem smL_len (p : Ply) (n a : Nat) : ∀ m, (smL p n a m).length ≤ m
  | 0 => by simp [smL]
  | m + 1 => by
    have := smL_len p n a m
    unfold smL; split
    · rw [List.length_append]; simp; omega
    · omega
theorem plcI_at {p : Ply} {n a i : Nat} (hi : i < (ls p n).length) (ha : a < (sc p n).rest.length) : plcI p n a i = (ls p n)[i][a]'(by rw [(mem_arr.1 (List.getElem_mem hi)).1]; exact ha) := by
  unfold plcI; rw [getD_at hi, getD_at (by rw [(mem_arr.1 (List.getElem_mem hi)).1]; exact ha)]
theorem plcI_in {p : Ply} {n a i : Nat} (hi : i < (ls p n).length) (ha : a < (sc p n).rest.length) : 0 ≤ plcI p n a i ∧ plcI p n a i < p.hts.length := by
  rw [plcI_at hi ha]; exact (mem_arr.1 (List.getElem_mem hi)).2.1 _ (List.getElem_mem _)
theorem word_at {p : Ply} {n a c : Nat} (hc : c < p.hts.length) (hr : ∀ i, i < (ls p n).length → 0 ≤ plcI p n a i ∧ plcI p n a i < p.hts.length) :
    wrdK (metK p n a (ls p n).length) (c + 1) = wrdK (metK p n a (ls p n).length) c ++ [if (c : Int) ∈ smL p n a (ls p n).length then (if (smL p n a (ls p n).length).length = 1 then 3 else 2) else 1] := by
  rw [wrdK_succ (by rw [metK_len]; exact hc), metK_get hc, smL_mny (Nat.le_refl _) hr]
  cases e : metB p n a (ls p n).length c with
  | false => rw [if_pos rfl, if_neg (fun h => by rw [smL_met.1 h] at e; cases e)]
  | true => rw [if_neg (by simp), if_pos (smL_met.2 e)]
theorem rtotals_pure {p : Ply} (gP : PlB p) (hA : ∀ i, i < p.scs.length → ls p i ≠ []) {n : Nat} (hn : n < p.scs.length) : APure Tryz.prog 85 [plA p, I n] (.tup [hds (ls p n), ints (totL p n)]) := by
  refine ap Tryz.func85 (fun e0 he0 => ?_)
  refine vz 3 ?_
  refine sq_nil ?_
  refine aw_seq ?_
  have hns := gP.ns
  have hal0 : (ls p 0).length ≤ 1296 := arr_len gP (sc_B gP (by omega)) true
  refine wz 1 ?_
  refine kz az (rrest_pure gP hA) ?_
  refine wz 6 ?_
  refine sq_ev rfl (ev_less (ev_index_map (k := 0) (xs := List.range p.scs.length) sl106.h jz jz (by first | omega | simp) (by simp; omega)) (Less.eq (b := .iptr [hds (ls p (0))]) (by simp))) ?_
  refine wz 2 ?_
  refine sq_make (n := (ls p 0).length) rfl (mk22 _ (by omega)) (by omega) jz jz ?_
  refine vz 1 ?_
  refine sq_nil ?_
  refine aw_seq ?_
  refine aw_seq ?_
  refine aw_sub (sub_freeze (j := 1) (n := (ls p 0).length) (cap := (ls p 0).length) (sz := 1) (es := (brow p 0).map fun x => [I x]) (rest := []) (sl' := [(1, .raw (.int .i64 n)), (2, .ptr 0 0), (6, .sl 1 ((List.range p.scs.length).map fun i => [ints (lrow p i)])), (7, .sl 1 ((List.range p.scs.length).map (fun i => [hds (ls p i)]))), (8, ints (brow p 0))]) (by show some (AObj.cells ((List.replicate (ls p 0).length (Value.int .i64 0)).map AV.raw)) = _; rw [made_brow]) (by simp [brow_len]) (fun q hq => by obtain ⟨i, _, rfl⟩ := List.mem_map.1 hq; rfl) (fun q hq => ?_) (FzH.same _ (by decide) (FzH.dead _ rfl (FzH.nil _)))) ?_
  ·simp only [List.mem_cons, List.not_mem_nil, or_false] at hq; rcases hq with rfl | rfl | rfl | rfl | rfl; exact Fz.same _; exact Fz.same _; exact Fz.same _; exact Fz.same _; exact Fz.frozen
  refine nz ?_
  refine wz 1 ?_
  refine aw_loopk (ι := { k : Nat // 1 ≤ k ∧ k ≤ n + 1 }) [1, 2, 6, 7] (fun g => [(8, ints (brow p (g.1 - 1))), (9, I g.1)]) (fun H g => H) (fun g => n + 1 - g.1) (⟨1, by omega, by omega⟩) ⟨jz, jz, jz, jz, jz, jz, trivial⟩ rfl ?_
  rintro ⟨k, hk1, hk⟩
  refine nz ?_
  refine wz 3 ?_
  refine iz (fun c_29 c_29' => ?_) (fun c_29 c_29' => ?_)
  ·obtain ⟨m, rfl⟩ : ∃ m, k = m + 1 := ⟨k - 1, by omega⟩
   have hm1 : m + 1 < p.scs.length := by omega
   have hal : (ls p (m + 1)).length ≤ 1296 := arr_len gP (sc_B gP hm1) true
   have ham : (ls p m).length ≤ 1296 := arr_len gP (sc_B gP (by omega)) true
   refine vz 2 ?_
   refine sq_nil ?_
   refine aw_block ?_
   refine aw_sub (sub_token 10 1 jz) ?_
   refine aw_loopk (ι := { k : Nat // k ≤ (ls p (m + 1)).length }) [1, 2, 6, 7, 8, 9] (fun i => [(11, I i.1), (10, .own 2 1 ((((brow p (m + 1)).take i.1)).map fun x => [I x]))]) (fun H i => H.set 2 (.tok ((((brow p (m + 1)).take i.1)).map fun x => [I x]).length)) (fun i => (ls p (m + 1)).length - i.1) (⟨0, Nat.zero_le _⟩) ⟨jz, jz, jz, jz, jz, jz, jz, jz, trivial⟩ rfl ?_
   rintro ⟨i, hi⟩
   refine nz ?_
   have hbl := brow_len p (m + 1)
   refine wz 3 ?_
   refine sq_ev rfl (ev_less (ev_index_map (k := m + 1) (xs := List.range p.scs.length) sl106.h jz jz (by first | omega | simp) (by simp; omega)) (Less.eq (b := .iptr [hds (ls p (m + 1))]) (by simp))) ?_
   refine wz 3 ?_
   refine iz (fun c_38 c_38' => ?_) (fun c_38 c_38' => ?_)
   ·have hil : i < (ls p (m + 1)).length := by omega
    refine wz 2 ?_
    refine aw_loopk (ι := { j : Nat // j ≤ (ls p m).length }) [1, 2, 6, 7, 8, 9, 10, 11] (fun u => [(12, I (cvL p m (ls p (m + 1))[i] u.1)), (13, I u.1)]) (fun H u => H) (fun u => (ls p m).length - u.1) (⟨0, Nat.zero_le _⟩) ⟨jz, jz, jz, jz, jz, jz, jz, jz, jz, jz, trivial⟩ rfl ?_
    rintro ⟨j, hj⟩
    refine nz ?_
    refine wz 4 ?_
    refine sq_ev rfl (ev_less (ev_index_map (k := m) (xs := List.range p.scs.length) sl106.h jz jz (by first | omega | simp) (by simp; omega)) (Less.eq (b := .iptr [hds (ls p (m))]) (by simp))) ?_
    refine wz 3 ?_
    refine iz (fun c_48 c_48' => ?_) (fun c_48 c_48' => ?_)
    ·have hjl : j < (ls p m).length := by omega
     have htb := turns_bd gP (n := m) (by omega) (ls p m)[j] (ls p (m + 1))[i]
     have hbb := befI_bd gP hA j (show m < p.scs.length by omega)
     refine wz 0 ?_
     refine aw_draw 25 mo (by kernel_rfl) ?_
     refine dz 2 ?_
     refine dr_ev rfl (ev_less (ev_index_map (k := j) (xs := brow p (m)) sl22.h jz jz rfl (by rw [brow_len]; exact hjl)) (Less.eq (b := .iptr [I (befI p (m) j)]) (by rw [brow_get hjl]))) ?_
     refine dz 7 ?_
     refine dr_ev rfl (ev_less (ev_index_map (k := m) (xs := List.range p.scs.length) sl106.h jz jz (by first | omega | simp) (by simp; omega)) (Less.eq (b := .iptr [hds (ls p (m))]) (by simp))) ?_
     refine dz 2 ?_
     refine dr_ev rfl (ev_index_map (k := j) (xs := ls p (m)) sl61.h jz jz rfl hjl) ?_
     refine dz 3 ?_
     refine dr_ev rfl (ev_less (ev_index_map (k := m + 1) (xs := List.range p.scs.length) sl106.h jz jz (by first | omega | simp) (by simp; omega)) (Less.eq (b := .iptr [hds (ls p (m + 1))]) (by simp))) ?_
     refine dz 2 ?_
     refine dr_ev rfl (ev_index_map (k := i) (xs := ls p (m + 1)) sl61.h jz jz rfl hil) ?_
     refine dz 1 ?_
     refine dr_ev rfl (ev_call en125.h jz (rstep_pure gP (n := m) (by omega) (mem_arr.1 (List.getElem_mem hjl)).1 (mem_arr.1 (List.getElem_mem hil)).1) ⟨jz, (by exact less_int (by omega)), jz, jz, trivial⟩) ?_
     refine dz 2 ?_
     refine wz 3 ?_
     refine sz 77 (fun g15_2 g15_2' => ?_) (fun g15_2 g15_2' => ?_)
     ·have ecv := cvL_step1 (b := (ls p (m + 1))[i]) hjl (v := befI p m j + stp p m (ls p m)[j] (ls p (m + 1))[i]) rfl (.inl (cvL_big gP hA hm1 hj (of_decide_eq_true g15_2)))
      refine wz 10 ?_
      exact ⟨⟨j + 1, by omega⟩, by simp only; omega, Sub.slots ⟨(by exact less_int ecv.symm), jz, jz, jz, jz, jz, jz, jz, jz, jz, trivial⟩⟩
     refine wz 4 ?_
     refine iz (fun c_81 c_81' => ?_) (fun c_81 c_81' => ?_)
     ·have ecv := cvL_step1 (b := (ls p (m + 1))[i]) hjl (v := befI p m j + stp p m (ls p m)[j] (ls p (m + 1))[i]) rfl (.inr (of_decide_eq_true c_81))
      refine wz 5 ?_
      exact ⟨⟨j + 1, by omega⟩, by simp only; omega, Sub.slots ⟨(by exact less_int ecv.symm), jz, jz, jz, jz, jz, jz, jz, jz, jz, trivial⟩⟩
     have hj1 : 0 < j := by (rcases Nat.eq_zero_or_pos j with q | q; (have := cvL_neg (p := p) (m := m) (b := (ls p (m + 1))[i]) q; omega); exact q)
     have ecv := cvL_step2 (b := (ls p (m + 1))[i]) hjl (v := befI p m j + stp p m (ls p m)[j] (ls p (m + 1))[i]) rfl hj1 (of_decide_eq_false c_81)
     refine wz 3 ?_
     exact ⟨⟨j + 1, by omega⟩, by simp only; omega, Sub.slots ⟨(by exact less_int ecv.symm), jz, jz, jz, jz, jz, jz, jz, jz, jz, trivial⟩⟩
    obtain rfl : j = (ls p m).length := by omega
    have ecv := cvL_all (p := p) (m := m) hil (List.length_pos_iff.2 (hA m (by omega)))
    have eS : (((brow p (m + 1)).take (i + 1))).map (fun x => [I x]) = (((brow p (m + 1)).take i)).map (fun x => [I x]) ++ [[I (befI p (m + 1) i)]] := by rw [brow_succ hil, List.map_append]; rfl
    refine wz 2 ?_
    refine sq_ev rfl (ev_less (ev_buildSlice (es := [[_]]) sf22.h rfl rfl rfl rfl) (Less.eq (b := .slx 1 [[I (befI p (m + 1) i)]]) (by rw [ecv]))) ?_
    first | refine sq_append rfl sf22.h Tryz.underlying22 rfl rfl jz (Nat.succ_pos _) (by simp; omega) (by simp; omega) ?_ | refine sq_append rfl sf22.h Tryz.underlying22 rfl rfl (less_slx _ _) (Nat.succ_pos _) (by simp; omega) (by simp; omega) ?_
    refine wz 4 ?_
    exact ⟨⟨i + 1, by omega⟩, by simp only; omega, sb 3 ⟨jz, Less.eq (by rw [eS] <;> rfl), jz, jz, jz, jz, jz, jz, trivial⟩ (hH := (congrArg (fun z : Nat => [_, _, AObj.tok z]) (congrArg List.length eS.symm)))⟩
   obtain rfl : i = (ls p (m + 1)).length := by omega
   refine wz 5 ?_
   exact ⟨⟨m + 2, by omega, by omega⟩, by simp only; omega, sb 2 ⟨Less.trans (less_own _ _ _) (Less.eq (by rw [← brow_len, List.take_length]; rfl)), jz, jz, jz, jz, jz, trivial⟩⟩
  obtain rfl : k = n + 1 := by omega
  have hal : (ls p n).length ≤ 1296 := arr_len gP (sc_B gP hn) true
  refine vz 2 ?_
  refine sq_nil ?_
  refine aw_block ?_
  refine aw_sub (sub_token 15 1 jz) ?_
  refine aw_loopk (ι := { k : Nat // k ≤ (ls p n).length }) [1, 6, 7, 8] (fun i => [(16, I i.1), (15, .own 2 1 ((((totL p n).take i.1)).map fun x => [I x]))]) (fun H i => H.set 2 (.tok ((((totL p n).take i.1)).map fun x => [I x]).length)) (fun i => (ls p n).length - i.1) (⟨0, Nat.zero_le _⟩) ⟨jz, jz, jz, jz, jz, jz, trivial⟩ rfl ?_
  rintro ⟨i, hi⟩
  refine nz ?_
  have htl := totL_len p n
  refine wz 3 ?_
  refine sq_ev rfl (ev_less (ev_index_map (k := n) (xs := List.range p.scs.length) sl106.h jz jz (by first | omega | simp) (by simp; omega)) (Less.eq (b := .iptr [hds (ls p (n))]) (by simp))) ?_
  refine wz 3 ?_
  refine iz (fun c_94 c_94' => ?_) (fun c_94 c_94' => ?_)
  ·have hil : i < (ls p n).length := by omega
   have hbb := befI_bd gP hA i hn
   have hlb := lefI_bd gP hA i hn
   have eS : (((totL p n).take (i + 1))).map (fun x => [I x]) = (((totL p n).take i)).map (fun x => [I x]) ++ [[I (befI p n i + lefI p n i)]] := by rw [totL_succ hil, List.map_append]; rfl
   refine wz 0 ?_
   refine aw_drawc [] [14] _ mo (by kernel_rfl) (HSub.mask [2] 0 _) ?_
   first | refine dc_ev rfl (ev_mv (v := .sl _ _) jz) ?_ | refine dc_ev rfl (ev_mv (v := .own _ _ _) jz) ?_ | refine dc_ev rfl (ev_mv (v := .raw _) jz) ?_ | refine dc_ev rfl (ev_mv (v := .slx _ _) jz) ?_ | refine dc_ev rfl (ev_mv (v := .msl _ _ _ _) jz) ?_
   first | refine dc_ev rfl (ev_mv (v := .sl _ _) jz) ?_ | refine dc_ev rfl (ev_mv (v := .own _ _ _) jz) ?_ | refine dc_ev rfl (ev_mv (v := .raw _) jz) ?_ | refine dc_ev rfl (ev_mv (v := .slx _ _) jz) ?_ | refine dc_ev rfl (ev_mv (v := .msl _ _ _ _) jz) ?_
   refine dc_ev rfl (ev_mv (v := .raw _) jz) ?_
   refine dc_ev rfl (ev_less (ev_index_map (k := i) (xs := brow p (n)) sl22.h jz jz rfl (by rw [brow_len]; exact hil)) (Less.eq (b := .iptr [I (befI p (n) i)]) (by rw [brow_get hil]))) ?_
   first | refine dc_ev rfl (ev_load jz rfl ty3.h rfl) ?_ | refine dc_ev rfl (ev_load_i jz ty3.h rfl) ?_
   first | refine dc_ev rfl (ev_mv (v := .sl _ _) jz) ?_ | refine dc_ev rfl (ev_mv (v := .own _ _ _) jz) ?_ | refine dc_ev rfl (ev_mv (v := .raw _) jz) ?_ | refine dc_ev rfl (ev_mv (v := .slx _ _) jz) ?_ | refine dc_ev rfl (ev_mv (v := .msl _ _ _ _) jz) ?_
   refine dc_ev rfl (ev_mv (v := .raw _) jz) ?_
   refine dc_ev rfl (ev_less (ev_index_map (k := n) (xs := List.range p.scs.length) sl61.h jz jz (by first | omega | simp) (by simp; omega)) (Less.eq (b := .iptr [ints (lrow p (n))]) (by simp))) ?_
   first | refine dc_ev rfl (ev_load jz rfl ty22.h rfl) ?_ | refine dc_ev rfl (ev_load_i jz ty22.h rfl) ?_
   refine dc_ev rfl (ev_mv (v := .raw _) jz) ?_
   refine dc_ev rfl (ev_less (ev_index_map (k := i) (xs := lrow p (n)) sl22.h jz jz rfl (by rw [lrow_len]; exact hil)) (Less.eq (b := .iptr [I (lefI p (n) i)]) (by rw [lrow_get hil]))) ?_
   first | refine dc_ev rfl (ev_load jz rfl ty3.h rfl) ?_ | refine dc_ev rfl (ev_load_i jz ty3.h rfl) ?_
   refine dc_ev rfl (ev_add jz jz (wr (by omega) (by omega))) ?_
   refine dc_ev rfl (ev_buildSlice (es := [[_]]) sf22.h rfl rfl rfl rfl) ?_
   refine dc_eff rfl rfl (eff_append rfl sf22.h Tryz.underlying22 rfl rfl (less_slx _ _) (by simp; omega) (by simp; omega)) (by apply HL.sub; repeat' (first | exact HL.nil _ | apply HL.same | apply HL.tok)) ?_
   first | refine dc_ev rfl (ev_as (v := .sl _ _) jz) ?_ | refine dc_ev rfl (ev_as (v := .own _ _ _) jz) ?_ | refine dc_ev rfl (ev_as (v := .raw _) jz) ?_ | refine dc_ev rfl (ev_as (v := .slx _ _) jz) ?_ | refine dc_ev rfl (ev_as (v := .msl _ _ _ _) jz) ?_
   refine dc_nil ?_
   refine wz 3 ?_
   exact ⟨⟨i + 1, by omega⟩, by simp only; omega, sb 3 ⟨jz, Less.eq (by rw [eS] <;> rfl), jz, jz, jz, jz, trivial⟩ (hH := (congrArg (fun z : Nat => [_, _, AObj.tok z]) (congrArg List.length eS.symm)))⟩
  obtain rfl : i = (ls p n).length := by omega
  refine wz 2 ?_
  refine sq_ev rfl (ev_less (ev_index_map (k := n) (xs := List.range p.scs.length) sl106.h jz jz (by first | omega | simp) (by simp; omega)) (Less.eq (b := .iptr [hds (ls p (n))]) (by simp))) ?_
  refine wz 4 ?_
  exact retQ_pure (v := .tup [.sl _ _, .own _ _ _]) rfl rfl (less_tup ⟨jz, Less.trans (less_own _ _ _) (Less.eq (by rw [← totL_len, List.take_length])), trivial⟩)
theorem rwhere_pure {p : Ply} (gP : PlB p) (hA : ∀ i, i < p.scs.length → ls p i ≠ []) {n : Nat} (hn : n < p.scs.length) {g : Int} {a : Nat} (ha : a < (sc p n).rest.length) (h3 : ixQ (fun y => decide (g = y)) (sc p n).rest = (a : Int)) : APure Tryz.prog 29 [plA p, I n, I g] (ints (whr p n a)) := by
  refine ap Tryz.func29 (fun e0 he0 => ?_)
  refine vz 2 ?_
  refine sq_nil ?_
  refine aw_seq ?_
  have hal : (ls p n).length ≤ 1296 := arr_len gP (sc_B gP hn) true
  have hpos : 0 < (ls p n).length := List.length_pos_iff.2 (hA n hn)
  have hnh := gP.nh
  have hr4 := (sc_B gP hn).r4
  have htl := totL_len p n
  have hix := rindex_pure (sc p n).rest g (by omega)
  rw [h3] at hix
  have hpr : ∀ i, i < (ls p n).length → 0 ≤ plcI p n a i ∧ plcI p n a i < p.hts.length := fun i hi => plcI_in hi ha
  refine wz 2 ?_
  refine kz az (rtotals_pure gP hA hn) ?_
  refine wz 8 ?_
  refine sq_ev rfl (ev_less (ev_index_map (k := n) (xs := p.scs) sl24.h jz jz rfl hn) (Less.eq (b := .iptr (scC (sc p n))) (by rw [sc_at hn]))) ?_
  refine wz 3 ?_
  refine kz az (hix) ?_
  refine wz 2 ?_
  refine sq_ev rfl (ev_index_map (k := 0) (xs := totL p n) sl22.h jz jz rfl (by omega)) ?_
  refine wz 3 ?_
  refine aw_loopk (ι := { i : Nat // i ≤ (totL p n).length }) [3, 7, 8, 9] (fun i => [(10, I (mn0 (totL p n) i.1)), (11, I i.1)]) (fun H i => H) (fun i => (totL p n).length - i.1) (⟨0, Nat.zero_le _⟩) ⟨(by exact less_int (by rw [mn0_0 (by omega)])), jz, jz, jz, jz, jz, trivial⟩ rfl ?_
  rintro ⟨i, hi⟩
  refine nz ?_
  refine wz 4 ?_
  refine iz (fun c_37 c_37' => ?_) (fun c_37 c_37' => ?_)
  ·have hil : i < (totL p n).length := by omega
   refine wz 3 ?_
   refine sq_ev rfl (ev_index_map (k := i) (xs := totL p n) sl22.h jz jz rfl hil) ?_
   refine wz 6 ?_
   exact ⟨⟨i + 1, by omega⟩, by simp only; omega, Sub.slots ⟨(by exact less_int (by rw [mn0_succ hil])), jz, jz, jz, jz, jz, trivial⟩⟩
  obtain rfl : i = (totL p n).length := by omega
  have efw : mn0 (totL p n) (totL p n).length = fewP p := by rw [mn0_all, tot_few hA hn]
  refine vz 2 ?_
  refine sq_nil ?_
  refine aw_block ?_
  refine aw_sub (sub_token 12 1 jz) ?_
  refine aw_loopk (ι := { k : Nat // k ≤ (ls p n).length }) [3, 7, 8, 9, 10] (fun i => [(13, I i.1), (12, .own 1 1 (((smL p n a i.1)).map fun x => [I x]))]) (fun H i => H.set 1 (.tok (((smL p n a i.1)).map fun x => [I x]).length)) (fun i => (ls p n).length - i.1) (⟨0, Nat.zero_le _⟩) ⟨jz, jz, jz, jz, jz, jz, jz, trivial⟩ rfl ?_
  rintro ⟨i, hi⟩
  refine nz ?_
  have hsl := smL_len p n a i
  refine wz 4 ?_
  refine iz (fun c_49 c_49' => ?_) (fun c_49 c_49' => ?_)
  ·have hil : i < (ls p n).length := by omega
   refine wz 2 ?_
   refine sq_ev rfl (ev_less (ev_index_map (k := i) (xs := totL p n) sl22.h jz jz rfl (by omega)) (Less.eq (b := .iptr [I (befI p n i + lefI p n i)]) (by rw [totL_get hil]))) ?_
   refine wz 4 ?_
   refine sz 58 (fun g12_6 g12_6' => ?_) (fun g12_6 g12_6' => ?_)
   ·have hbs : bstI p n i = true := by unfold bstI; rw [← efw]; exact g12_6
    refine wz 3 ?_
    refine sq_yes rfl rfl (less_b g12_6) rfl (ev_index_map (k := i) (xs := ls p (n)) sl61.h jz jz rfl hil) ?_
    refine wz 2 ?_
    refine sq_yes rfl rfl (less_b g12_6) rfl (ev_less (ev_index_map (k := a) (xs := (ls p n)[i]) sl22.h jz jz rfl (by rw [(mem_arr.1 (List.getElem_mem hil)).1]; exact ha)) (Less.eq (b := .iptr [I (plcI p n a i)]) (by rw [plcI_at hil ha]))) ?_
    refine wz 1 ?_
    refine sq_yes rfl rfl (less_b g12_6) rfl (ev_call en27.h jz (has_pure _ _ (by have := smL_len p n a i; omega)) ⟨less_own _ _ _, jz, trivial⟩) ?_
    refine wz 2 ?_
    refine iz (fun c_69 c_69' => ?_) (fun c_69 c_69' => ?_)
    ·have eS : (smL p n a (i + 1)).map (fun x => [I x]) = (smL p n a i).map (fun x => [I x]) ++ [[I (plcI p n a i)]] := by rw [smL_yes hbs (by simpa using c_69), List.map_append]; rfl
     refine wz 3 ?_
     refine sq_ev rfl (ev_index_map (k := i) (xs := ls p (n)) sl61.h jz jz rfl hil) ?_
     refine wz 2 ?_
     refine sq_ev rfl (ev_less (ev_index_map (k := a) (xs := (ls p n)[i]) sl22.h jz jz rfl (by rw [(mem_arr.1 (List.getElem_mem hil)).1]; exact ha)) (Less.eq (b := .iptr [I (plcI p n a i)]) (by rw [plcI_at hil ha]))) ?_
     refine wz 1 ?_
     refine sq_ev rfl (ev_buildSlice (es := [[_]]) sf22.h rfl rfl rfl rfl) ?_
     first | refine sq_append rfl sf22.h Tryz.underlying22 rfl rfl jz (Nat.succ_pos _) (by simp; omega) (by simp; omega) ?_ | refine sq_append rfl sf22.h Tryz.underlying22 rfl rfl (less_slx _ _) (Nat.succ_pos _) (by simp; omega) (by simp; omega) ?_
     refine wz 4 ?_
     exact ⟨⟨i + 1, by omega⟩, by simp only; omega, sb 2 ⟨jz, Less.eq (by rw [eS] <;> rfl), jz, jz, jz, jz, jz, trivial⟩ (hH := (congrArg (fun n => [_, AObj.tok n]) (congrArg List.length eS.symm)))⟩
    have eS : (smL p n a (i + 1)).map (fun x => [I x]) = (smL p n a i).map (fun x => [I x]) := by rw [smL_no2 (by simpa using c_69)]
    refine wz 3 ?_
    exact ⟨⟨i + 1, by omega⟩, by simp only; omega, sb 2 ⟨jz, Less.eq (by rw [eS] <;> rfl), jz, jz, jz, jz, jz, trivial⟩ (hH := (congrArg (fun n => [_, AObj.tok n]) (congrArg List.length eS.symm)))⟩
   have hbs : bstI p n i = false := by unfold bstI; rw [← efw]; exact g12_6
   have eS : (smL p n a (i + 1)).map (fun x => [I x]) = (smL p n a i).map (fun x => [I x]) := by rw [smL_no1 hbs]
   refine wz 15 ?_
   exact ⟨⟨i + 1, by omega⟩, by simp only; omega, sb 2 ⟨jz, Less.eq (by rw [eS] <;> rfl), jz, jz, jz, jz, jz, trivial⟩ (hH := (congrArg (fun n => [_, AObj.tok n]) (congrArg List.length eS.symm)))⟩
  obtain rfl : i = (ls p n).length := by omega
  refine vz 2 ?_
  refine sq_nil ?_
  refine aw_block ?_
  refine aw_sub (sub_token 14 1 jz) ?_
  refine aw_loopk (ι := { k : Nat // k ≤ p.hts.length }) [3, 12] (fun i => [(15, I i.1), (14, .own 2 1 (((wrdK (metK p n a (ls p n).length) i.1)).map fun x => [I x]))]) (fun H i => H.set 2 (.tok (((wrdK (metK p n a (ls p n).length) i.1)).map fun x => [I x]).length)) (fun i => p.hts.length - i.1) (⟨0, Nat.zero_le _⟩) ⟨jz, jz, jz, jz, trivial⟩ rfl ?_
  rintro ⟨c, hc⟩
  refine nz ?_
  have hwl : ((wrdK (metK p n a (ls p n).length) c)).length = c := wrdK_len (by rw [metK_len]; exact hc)
  refine wz 5 ?_
  refine iz (fun c_84 c_84' => ?_) (fun c_84 c_84' => ?_)
  ·have hcl : c < p.hts.length := by omega
   have hwd := word_at hcl hpr
   refine wz 3 ?_
   refine sq_ev rfl (ev_call en27.h jz (has_pure _ _ (by have := smL_len p n a (ls p n).length; omega)) ⟨less_own _ _ _, jz, trivial⟩) ?_
   refine wz 1 ?_
   refine sz 90 (fun g19_3 g19_3' => ?_) (fun g19_3 g19_3' => ?_)
   ·have hin : (c : Int) ∈ smL p n a (ls p n).length := of_decide_eq_true g19_3
    rw [if_pos hin] at hwd
    refine wz 1 ?_
    refine sq_yes rfl rfl (less_b g19_3) rfl (ev_len_map sl22.h (less_own _ _ _)) ?_
    refine wz 2 ?_
    refine iz (fun c_94 c_94' => ?_) (fun c_94 c_94' => ?_)
    ·refine wz 3 ?_
     refine sq_ev rfl (ev_call en27.h jz (has_pure _ _ (by have := smL_len p n a (ls p n).length; omega)) ⟨less_own _ _ _, jz, trivial⟩) ?_
     refine wz 1 ?_
     refine sz 98 (fun g21_3 g21_3' => ?_) (fun g21_3 g21_3' => ?_)
     ·have hin2 : (c : Int) ∈ smL p n a (ls p n).length := of_decide_eq_true g21_3
      refine wz 1 ?_
      refine sq_yes rfl rfl (less_b g21_3) rfl (ev_len_map sl22.h (less_own _ _ _)) ?_
      refine wz 2 ?_
      refine iz (fun c_102 c_102' => ?_) (fun c_102 c_102' => ?_)
      ·have h1 : (smL p n a (ls p n).length).length = 1 := by have := of_decide_eq_true c_102; first | omega | (simp at this; omega)
       have eS : ((wrdK (metK p n a (ls p n).length) (c + 1))).map (fun x => [I x]) = ((wrdK (metK p n a (ls p n).length) c)).map (fun x => [I x]) ++ [[I 3]] := by rw [hwd, if_pos h1, List.map_append]; rfl
       refine wz 3 ?_
       refine sq_ev rfl (ev_buildSlice (es := [[_]]) sf35.h rfl rfl rfl rfl) ?_
       first | refine sq_append rfl sf35.h Tryz.underlying35 rfl rfl jz (Nat.succ_pos _) (by simp; omega) (by simp; omega) ?_ | refine sq_append rfl sf35.h Tryz.underlying35 rfl rfl (less_slx _ _) (Nat.succ_pos _) (by simp; omega) (by simp; omega) ?_
       refine wz 4 ?_
       exact ⟨⟨c + 1, by omega⟩, by simp only; omega, sb 3 ⟨jz, Less.eq (by rw [eS] <;> rfl), jz, jz, trivial⟩ (hH := (congrArg (fun z : Nat => [_, _, AObj.tok z]) (congrArg List.length eS.symm)))⟩
      have h1 : ¬ (smL p n a (ls p n).length).length = 1 := by have := of_decide_eq_false c_102; first | omega | (simp at this; omega)
      have h0 : 0 < (smL p n a (ls p n).length).length := List.length_pos_of_mem hin
      have eS : ((wrdK (metK p n a (ls p n).length) (c + 1))).map (fun x => [I x]) = ((wrdK (metK p n a (ls p n).length) c)).map (fun x => [I x]) ++ [[I 2]] := by rw [hwd, if_neg h1, List.map_append]; rfl
      refine wz 2 ?_
      refine sq_ev rfl (ev_buildSlice (es := [[_]]) sf35.h rfl rfl rfl rfl) ?_
      first | refine sq_append rfl sf35.h Tryz.underlying35 rfl rfl jz (Nat.succ_pos _) (by simp; omega) (by simp; omega) ?_ | refine sq_append rfl sf35.h Tryz.underlying35 rfl rfl (less_slx _ _) (Nat.succ_pos _) (by simp; omega) (by simp; omega) ?_
      refine wz 4 ?_
      exact ⟨⟨c + 1, by omega⟩, by simp only; omega, sb 3 ⟨jz, Less.eq (by rw [eS] <;> rfl), jz, jz, trivial⟩ (hH := (congrArg (fun z : Nat => [_, _, AObj.tok z]) (congrArg List.length eS.symm)))⟩
     have hin2 : ¬ (c : Int) ∈ smL p n a (ls p n).length := of_decide_eq_false g21_3
     exact (hin2 hin).elim
    refine wz 2 ?_
    refine sq_ev rfl (ev_call en27.h jz (has_pure _ _ (by have := smL_len p n a (ls p n).length; omega)) ⟨less_own _ _ _, jz, trivial⟩) ?_
    refine wz 1 ?_
    refine sz 98 (fun g21_3 g21_3' => ?_) (fun g21_3 g21_3' => ?_)
    ·have hin2 : (c : Int) ∈ smL p n a (ls p n).length := of_decide_eq_true g21_3
     refine wz 1 ?_
     refine sq_yes rfl rfl (less_b g21_3) rfl (ev_len_map sl22.h (less_own _ _ _)) ?_
     refine wz 2 ?_
     refine iz (fun c_102 c_102' => ?_) (fun c_102 c_102' => ?_)
     ·have h1 : (smL p n a (ls p n).length).length = 1 := by have := of_decide_eq_true c_102; first | omega | (simp at this; omega)
      have eS : ((wrdK (metK p n a (ls p n).length) (c + 1))).map (fun x => [I x]) = ((wrdK (metK p n a (ls p n).length) c)).map (fun x => [I x]) ++ [[I 3]] := by rw [hwd, if_pos h1, List.map_append]; rfl
      refine wz 3 ?_
      refine sq_ev rfl (ev_buildSlice (es := [[_]]) sf35.h rfl rfl rfl rfl) ?_
      first | refine sq_append rfl sf35.h Tryz.underlying35 rfl rfl jz (Nat.succ_pos _) (by simp; omega) (by simp; omega) ?_ | refine sq_append rfl sf35.h Tryz.underlying35 rfl rfl (less_slx _ _) (Nat.succ_pos _) (by simp; omega) (by simp; omega) ?_
      refine wz 4 ?_
      exact ⟨⟨c + 1, by omega⟩, by simp only; omega, sb 3 ⟨jz, Less.eq (by rw [eS] <;> rfl), jz, jz, trivial⟩ (hH := (congrArg (fun z : Nat => [_, _, AObj.tok z]) (congrArg List.length eS.symm)))⟩
     have h1 : ¬ (smL p n a (ls p n).length).length = 1 := by have := of_decide_eq_false c_102; first | omega | (simp at this; omega)
     have h0 : 0 < (smL p n a (ls p n).length).length := List.length_pos_of_mem hin
     have eS : ((wrdK (metK p n a (ls p n).length) (c + 1))).map (fun x => [I x]) = ((wrdK (metK p n a (ls p n).length) c)).map (fun x => [I x]) ++ [[I 2]] := by rw [hwd, if_neg h1, List.map_append]; rfl
     exfalso; (have := of_decide_eq_false c_102); first | omega | (simp at this; omega)
    have hin2 : ¬ (c : Int) ∈ smL p n a (ls p n).length := of_decide_eq_false g21_3
    exact (hin2 hin).elim
   have hin : ¬ (c : Int) ∈ smL p n a (ls p n).length := of_decide_eq_false g19_3
   rw [if_neg hin] at hwd
   have eS : ((wrdK (metK p n a (ls p n).length) (c + 1))).map (fun x => [I x]) = ((wrdK (metK p n a (ls p n).length) c)).map (fun x => [I x]) ++ [[I 1]] := by rw [hwd, List.map_append]; rfl
   refine wz 7 ?_
   refine sq_ev rfl (ev_call en27.h jz (has_pure _ _ (by have := smL_len p n a (ls p n).length; omega)) ⟨less_own _ _ _, jz, trivial⟩) ?_
   refine wz 1 ?_
   refine sz 98 (fun g21_3 g21_3' => ?_) (fun g21_3 g21_3' => ?_)
   ·have hin2 : (c : Int) ∈ smL p n a (ls p n).length := of_decide_eq_true g21_3
    exact (hin hin2).elim
   have hin2 : ¬ (c : Int) ∈ smL p n a (ls p n).length := of_decide_eq_false g21_3
   refine wz 7 ?_
   refine sq_ev rfl (ev_buildSlice (es := [[_]]) sf35.h rfl rfl rfl rfl) ?_
   first | refine sq_append rfl sf35.h Tryz.underlying35 rfl rfl jz (Nat.succ_pos _) (by simp; omega) (by simp; omega) ?_ | refine sq_append rfl sf35.h Tryz.underlying35 rfl rfl (less_slx _ _) (Nat.succ_pos _) (by simp; omega) (by simp; omega) ?_
   refine wz 4 ?_
   exact ⟨⟨c + 1, by omega⟩, by simp only; omega, sb 3 ⟨jz, Less.eq (by rw [eS] <;> rfl), jz, jz, trivial⟩ (hH := (congrArg (fun z : Nat => [_, _, AObj.tok z]) (congrArg List.length eS.symm)))⟩
  obtain rfl : c = p.hts.length := by omega
  refine wz 2 ?_
  exact retQ_pure (v := .own _ _ _) rfl rfl (Less.trans (less_own _ _ _) (Less.eq rfl))
end Go.Proofs.YtfmpabgblbbcdaaGreatDoor
namespace Go.Proofs.YtfmpabgblbbcdaaGreatDoor
open Go Go.Ab Ni St
open Hd hiding sz
theorem fails_ls {p : Ply} (h : failsAt p = none) : ∀ i, i < p.scs.length → ls p i ≠ [] := fun i hi e => by
  have := fails_none h i hi
  rw [can_nil e] at this; cases this
theorem whr_len (p : Ply) (n a : Nat) : (whr p n a).length = p.hts.length := by unfold whr; exact wrdK_len (by rw [metK_len]; exact Nat.le_refl _)
theorem law4_a {p : Ply} {n g : Int} (hs : shB p = false) : APure Tryz.prog 4 [plA p, I n, I g] (B true) := by
  refine ap Tryz.func4 (fun e0 he0 => ?_)
  refine wz 3 ?_
  refine kz az (short_f hs) ?_
  refine wz 2 ?_
  refine kz az (known_pure) ?_
  refine wz 1 ?_
  exact rz rfl jz
theorem law4_b {p : Ply} {n g : Int} (hs : shB p = true) (hr : plOK p = false) : APure Tryz.prog 4 [plA p, I n, I g] (B true) := by
  refine ap Tryz.func4 (fun e0 he0 => ?_)
  refine wz 3 ?_
  refine kz az (short_t hs) ?_
  refine wz 5 ?_
  refine kz az (xwhere_bad (shB_len hs).1 (shB_len hs).2.1 (shB_len hs).2.2.1 (shB_len hs).2.2.2 n g (bad_of1 hr)) ?_
  refine wz 6 ?_
  refine kz az (pl_f hs hr) ?_
  refine wz 27 ?_
  refine ky az (known_pure) ?_
  refine wz 2 ?_
  exact rz rfl jz
theorem law4_c {p : Ply} {n g : Int} (hs : shB p = true) (hr : plOK p = true) (hi : scIn p n = false) : APure Tryz.prog 4 [plA p, I n, I g] (B true) := by
  refine ap Tryz.func4 (fun e0 he0 => ?_)
  refine wz 3 ?_
  refine kz az (short_t hs) ?_
  refine wz 5 ?_
  refine kz az (xwhere_bad (shB_len hs).1 (shB_len hs).2.1 (shB_len hs).2.2.1 (shB_len hs).2.2.2 n g (bad_of2 hi)) ?_
  refine wz 6 ?_
  refine kz az (pl_t hs hr) ?_
  refine wz 4 ?_
  refine ky az (scn_f hs hi) ?_
  refine wz 22 ?_
  refine ky az (known_pure) ?_
  refine wz 2 ?_
  exact rz rfl jz
theorem law4_d {p : Ply} {k : Nat} {g : Int} (hs : shB p = true) (hr : plOK p = true) (hi : scIn p k = true) (hn : k < p.scs.length) (hm : ¬ g ∈ (sc p k).rest)  : APure Tryz.prog 4 [plA p, I k, I g] (B true) := by
  refine ap Tryz.func4 (fun e0 he0 => ?_)
  refine wz 3 ?_
  refine kz az (short_t hs) ?_
  refine wz 5 ?_
  refine kz az (xwhere_b3 (shB_len hs).1 (shB_len hs).2.1 (shB_len hs).2.2.1 (shB_len hs).2.2.2 hn hr (ix_not hm)) ?_
  refine wz 6 ?_
  refine kz az (pl_t hs hr) ?_
  refine wz 4 ?_
  refine ky az (scn_t hs hi) ?_
  refine wz 6 ?_
  refine sq_yes rfl rfl jz rfl (ev_less (ev_index_map (k := k) (xs := p.scs) sl24.h jz jz rfl hn) (Less.eq (b := .iptr (scC (sc p k))) (by rw [sc_at hn]))) ?_
  refine wz 3 ?_
  refine ky az (has_f (by have := rest_len hr hn; omega) hm) ?_
  refine wz 11 ?_
  refine ky az (known_pure) ?_
  refine wz 2 ?_
  exact rz rfl jz
theorem law4_e {p : Ply} {k : Nat} {g : Int} (hs : shB p = true) (hr : plOK p = true) (hi : scIn p k = true) (hn : k < p.scs.length) (hm : g ∈ (sc p k).rest) {i : Nat} (hil : i < (sc p k).rest.length) (h3 : ixQ (fun x => decide (g = x)) (sc p k).rest = (i : Int)) {m : Nat} (h : failsAt p = some m) : APure Tryz.prog 4 [plA p, I k, I g] (B true) := by
  refine ap Tryz.func4 (fun e0 he0 => ?_)
  refine wz 3 ?_
  refine kz az (short_t hs) ?_
  refine wz 5 ?_
  refine kz az (xwhere_no (shB_len hs).1 (shB_len hs).2.1 (shB_len hs).2.2.1 (shB_len hs).2.2.2 hn hr hil h3 h) ?_
  refine wz 6 ?_
  refine kz az (pl_t hs hr) ?_
  refine wz 4 ?_
  refine ky az (scn_t hs hi) ?_
  refine wz 6 ?_
  refine sq_yes rfl rfl jz rfl (ev_less (ev_index_map (k := k) (xs := p.scs) sl24.h jz jz rfl hn) (Less.eq (b := .iptr (scC (sc p k))) (by rw [sc_at hn]))) ?_
  refine wz 3 ?_
  refine ky az (has_t (by have := rest_len hr hn; omega) hm) ?_
  refine wz 4 ?_
  refine kz az (rfail_s (plOK_B hr) h) ?_
  refine wz 1 ?_
  refine iz (fun c_52 c_52' => ?_) (fun c_52 c_52' => ?_)
  ·refine wz 8 ?_
   refine ky az (known_pure) ?_
   refine wz 2 ?_
   exact rz rfl jz
  exfalso
  omega
theorem law4_f {p : Ply} {k : Nat} {g : Int} (hs : shB p = true) (hr : plOK p = true) (hi : scIn p k = true) (hn : k < p.scs.length) (hm : g ∈ (sc p k).rest) {i : Nat} (hil : i < (sc p k).rest.length) (h3 : ixQ (fun x => decide (g = x)) (sc p k).rest = (i : Int)) (h : failsAt p = none) : APure Tryz.prog 4 [plA p, I k, I g] (B true) := by
  refine ap Tryz.func4 (fun e0 he0 => ?_)
  refine wz 3 ?_
  refine kz az (short_t hs) ?_
  refine wz 5 ?_
  refine kz az (xwhere_ok (shB_len hs).1 (shB_len hs).2.1 (shB_len hs).2.2.1 (shB_len hs).2.2.2 hn hr hil h3 h) ?_
  refine wz 6 ?_
  refine kz az (pl_t hs hr) ?_
  refine wz 4 ?_
  refine ky az (scn_t hs hi) ?_
  refine wz 6 ?_
  refine sq_yes rfl rfl jz rfl (ev_less (ev_index_map (k := k) (xs := p.scs) sl24.h jz jz rfl hn) (Less.eq (b := .iptr (scC (sc p k))) (by rw [sc_at hn]))) ?_
  refine wz 3 ?_
  refine ky az (has_t (by have := rest_len hr hn; omega) hm) ?_
  refine wz 4 ?_
  refine kz az (rfail_n (plOK_B hr) h) ?_
  refine wz 9 ?_
  refine ky az (rwhere_pure (plOK_B hr) (fails_ls h) hn hil h3) ?_
  refine ky az (sameW_t (by rw [whr_len]; exact (shB_len hs).1) (by rw [whr_len]; exact (shB_len hs).1) rfl) ?_
  refine wz 2 ?_
  refine ky az (known_pure) ?_
  refine wz 2 ?_
  exact rz rfl jz
/-- **StemWheres.** -/
theorem law4 (p : Ply) (n : Int) (_ : -9223372036854775808 ≤ n) (_ : n ≤ 9223372036854775807) (g : Int) (_ : -9223372036854775808 ≤ g) (_ : g ≤ 9223372036854775807) : APure Tryz.prog 4 [plA p, I n, I g] (B true) := by
  cases hs : shB p with
  | false => exact law4_a hs
  | true =>
    cases hr : plOK p with
    | false => exact law4_b hs hr
    | true =>
      cases hi : scIn p n with
      | false => exact law4_c hs hr hi
      | true =>
        obtain ⟨k, rfl, hn⟩ := scIn_iff.1 hi
        by_cases hm : g ∈ (sc p k).rest
        · obtain ⟨i, hil, h3, _⟩ := ix_mem hm
          cases h : failsAt p with
          | none => exact law4_f hs hr hi hn hm hil h3 h
          | some m => exact law4_e hs hr hi hn hm hil h3 h
        · exact law4_d hs hr hi hn hm
end Go.Proofs.YtfmpabgblbbcdaaGreatDoor
