/-
  A part of the proof: conditions: none beyond each theorem's own.
-/
import Derived.Test.YtfmpabgblbbcdaaGreatDoorLogicA
import Derived.Test.YtfmpabgblbbcdaaGreatDoorLogicB
import Derived.Test.YtfmpabgblbbcdaaGreatDoorLogicC
import Derived.Deep.Slices
import Derived.OpenShut
import Derived.Carry
import Derived.Test.YtfmpabgblbbcdaaGreatDoorSpecA
import Derived.Test.YtfmpabgblbbcdaaGreatDoorLogicD
import Derived.Test.YtfmpabgblbbcdaaGreatDoorProg
import Derived.KernelRfl
import Derived.Lib.LaidTab
import Derived.Lib.ItoaNum
import Derived.Test.YtfmpabgblbbcdaaGreatDoorWalkB
import Derived.Test.YtfmpabgblbbcdaaGreatDoorWalkC
import Derived.Test.YtfmpabgblbbcdaaGreatDoorWalkG
import Derived.Laws.IdiomStrings
import Derived.Laws.IdiomCopy
import Derived.Test.YtfmpabgblbbcdaaGreatDoorLogicE
import Derived.Test.YtfmpabgblbbcdaaGreatDoorShelf
import Derived.Test.YtfmpabgblbbcdaaGreatDoorWalkA
import Derived.Test.YtfmpabgblbbcdaaGreatDoorWalkD
import Derived.Test.YtfmpabgblbbcdaaGreatDoorWalkE
import Derived.Test.YtfmpabgblbbcdaaGreatDoorWalkF
import Derived.Test.YtfmpabgblbbcdaaGreatDoorRow
set_option linter.all false
set_option maxRecDepth 100000
set_option maxHeartbeats 8000000
namespace Go.Ab
variable [Tabs]
theorem FW_room (r : Option Nat) (n : Nat) : (FW r).room n := fun _ h => by simp [FW] at h
variable {c : Ctx} {Q : AExit → St → Prop} {s : St}
end Go.Ab
namespace Go.Ab
variable [Tabs]
section tok
variable {c : Ctx} {ops : Array Oper} {Q : AExit → St → Prop} {rest : List Oper} {s : St} {i : Nat}
variable {d : Option Tmp} {t : TypeId} {p : String} {af : Array Edge}
theorem sq_append_new {x y : Operand} {st xt et et' : TypeId} {sz bytes : Nat} {es xs : List (List AV)} (hd : dOK c.nt d = true)
    (hf : SlFact c.P st et sz bytes) (hk : c.P.underlying xt = some (.slice et')) (hx : Less (s.op x) (.slx sz es)) (hy : Less (s.op y) (.sl sz xs))
    (hb : (es.length + xs.length) * bytes ≤ 140737488355328) (h63 : es.length + xs.length ≤ 9223372036854775807)
    (k : SeqWP c ops Q (i + 1) rest (St.put { s with H := s.H ++ [.tok (es ++ xs).length] } d (.own s.H.length sz (es ++ xs)))) : SeqWP c ops Q i (⟨d, .call ⟨.builtin .append, #[x, y], #[st, xt]⟩, t, p, af, none⟩ :: rest) s := by
  rw [List.length_append] at k
  refine sq_op fun e ac hs next hn' => ?_
  have hu := hx e _ (hs.op x)
  have hv := hy e _ (hs.op y)
  have hu' := hu
  rw [Rep] at hu'
  obtain ⟨a, len, hv1, hlen, hnil, hsz, hc⟩ := hu'
  refine ⟨about_FW _ _ _ _ _, ?_⟩
  show Oper.uponIn (FW c.r) 0 c.P _ ac next (lift c Q) (((Oper.semAt c.r ac.eval ⟨d, .call ⟨.builtin .append, #[x, y], #[st, xt]⟩, t, p, af, none⟩)).run c.P e.w)
  rw [semAt_of (by intro c h; cases h)]
  have hex : (execOp ac.eval ⟨d, .call ⟨.builtin .append, #[x, y], #[st, xt]⟩, t, p, af, none⟩).run c.P e.w = ((Builtin.append_ #[st, xt] t #[.slice a len len, ac.eval y]).run c.P e.w).andThen fun v w'' => .ok (.value v) w'' := by
    simp [execOp, resolve, invoke, builtin, hv1]
  rw [hex]
  subst hlen
  rcases Nat.eq_zero_or_pos xs.length with h0 | hpos
  · have : xs = [] := List.length_eq_zero_iff.1 h0
    subst this
    rw [run_append_nothing' hf hk hv (Nat.le_refl _)]
    obtain ⟨e', hw, hG, le, hH, hμ, hs'⟩ := sim_tok hs es.length
    have := Rep.mono le _ (less_slx _ _ _ _ hu)
    rw [hv1, Rep] at this
    obtain ⟨a', len', cap', q1, q2, q3, q4, q5, q6⟩ := this
    cases q1
    show next _ e.w
    rw [← hw]
    refine hn' _ e' _ k (hs'.put hd ?_)
    rw [Rep, List.append_nil]
    refine ⟨a, es.length, es.length, rfl, rfl, Nat.le_refl _, fun h => hnil h, hsz, q6, by rw [hH]; simp, ⟨es.length, by unfold Env.T; rw [hH]; simp [tokOf], Nat.le_refl _⟩, fun _ ad _ hlt => absurd hlt (Nat.lt_irrefl _)⟩
  · obtain ⟨e1, hw1, hG1, le1, hH1, hμ1, hs1⟩ := sim_tok hs 0
    have hlast : e1.H[s.H.length]? = some (.tok 0) := by rw [hH1]; simp
    have hTj : e1.T s.H.length = some 0 := by unfold Env.T; rw [hlast]; rfl
    have hjl : s.H.length < e1.H.length := by rw [hH1]; simp
    have hv' : Rep e1 (.sl sz xs) (ac.eval y) := Rep.mono le1 _ hv
    have hc' : ∀ ad, a = some ad → (es.length ≠ 0 → ad.spot = none) ∧ ElemsAt e1 es ad.block ad.off := fun ad h => ⟨(hc ad h).1, ElemsAt.mono le1 es (hc ad h).2⟩
    obtain ⟨cap', cs, w', hrun, hw, hst, hle2, hcs, hcells, hall⟩ := run_append_row (P := c.P) (t := t) (cap := es.length) hs1.ok hf hk rfl hnil hsz hc' hv' (by omega) hb h63
    have hj : ({ s with H := s.H ++ [.tok 0] } : St).H[s.H.length]? = some (.tok 0) := by simp
    obtain ⟨hsim, hle'⟩ := hs1.grew (j := s.H.length) (b := e1.w.heap.size) (n := 0) (n' := es.length + xs.length) (g := (es.length + xs.length) * sz) (w' := w') hst hj (by omega) (.inr rfl) (by rw [hs1.ok.fresh _ (Nat.le_refl _)]; omega) (by simp [hw]) (by simp [hw])
      (fun b' hb' hne => by rw [hw, Array.getElem?_push, if_neg hne]) (fun m hmlt => by rw [hs1.ok.fresh _ (Nat.le_refl _)] at hmlt; omega) (fun b' hb' h => by simp [hw] at hb'; omega)
    rw [← hw1, hrun]
    have hset : (s.H ++ [AObj.tok 0]).set s.H.length (.tok (es.length + xs.length)) = s.H ++ [.tok (es.length + xs.length)] := by
      rw [List.set_append_right _ _ (Nat.le_refl _)]; simp
    have hsim' : Sim c { s with H := s.H ++ [.tok (es.length + xs.length)] } (e1.grew s.H.length e1.w.heap.size (es.length + xs.length) ((es.length + xs.length) * sz) w') ac := by
      rw [← hset]; exact hsim
    refine hn' _ _ _ k (hsim'.put hd ?_)
    rw [Rep]
    refine ⟨_, _, _, rfl, by simp, hle2, (fun h => by cases h), hall, fun ad had => ?_, by simpa [Env.grew] using hjl, ⟨es.length + xs.length, by rw [Env.grew_T hjl, if_pos rfl], by simp⟩, fun _ ad had hlt => ?_⟩
    · simp only [Option.some.injEq] at had; subst had
      refine ⟨fun _ => rfl, ElemsAt.flat.2 ?_⟩
      have hxt : Ext e1 (e1.row ((es.length + xs.length) * sz) w') := Env.row_ext hs1.ok hw hst
      have le3 : (e1.row ((es.length + xs.length) * sz) w').Le (e1.grew s.H.length e1.w.heap.size (es.length + xs.length) ((es.length + xs.length) * sz) w') := by
        have hT : ∀ i, (e1.row ((es.length + xs.length) * sz) w').T i = e1.T i := fun i => rfl
        refine ⟨by simp [Env.grew, Env.row], fun i hi ht => ?_, fun b' off ho => ⟨ho, rfl⟩, fun i m ht => ?_⟩
        · rw [hT] at ht
          have hij : i ≠ s.H.length := fun h => by subst h; rw [hTj] at ht; cases ht
          rw [Env.grew_T hjl, if_neg hij]; exact ⟨ht, fun _ hb => by simpa [Env.grew, hij, Env.row] using hb⟩
        · rw [hT] at ht
          by_cases hij : i = s.H.length
          · subst hij
            have : m = 0 := by rw [hTj] at ht; exact (Option.some.inj ht).symm
            subst this
            exact ⟨_, by rw [Env.grew_T hjl, if_pos rfl], by omega, fun h => by omega⟩
          · exact ⟨m, by rw [Env.grew_T hjl, if_neg hij]; exact ht, Nat.le_refl _, fun _ => ⟨by simp [Env.grew, hij, Env.row], fun b' cs t _ hh => ⟨rfl, cs, hh, rfl⟩⟩⟩
      exact CellsAt.mono le3 _ hcells
    · simp only [Option.some.injEq] at had; subst had
      exact ⟨by simp [Env.grew], by simp [Env.grew], cs, et, by simp [Env.grew, hw], by simp [hcs]⟩
end tok
section eff
variable {c : Ctx} {Q : AExit → St → Prop} {H : List AObj} {df : List ADef} {ρ : Operand → AV} {d : Option Tmp} {t : TypeId} {p : String} {af : Array Edge}
theorem eff_append_new {x y : Operand} {st xt et et' : TypeId} {sz bytes : Nat} {es xs : List (List AV)} (hd : dOK c.nt d = true)
    (hf : SlFact c.P st et sz bytes) (hk : c.P.underlying xt = some (.slice et')) (hx : Less (ρ x) (.slx sz es)) (hy : Less (ρ y) (.sl sz xs))
    (hb : (es.length + xs.length) * bytes ≤ 140737488355328) (h63 : es.length + xs.length ≤ 9223372036854775807) :
    Eff c Q ⟨d, .call ⟨.builtin .append, #[x, y], #[st, xt]⟩, t, p, af, none⟩ H df ρ (.own H.length sz (es ++ xs)) (H ++ [.tok (es ++ xs).length]) :=
  eff_of rfl fun s hH hop Q k => by
    subst hH
    exact sq_append_new hd hf hk (by rw [hop x (by simp [Op.operands, Call.operands])]; exact hx) (by rw [hop y (by simp [Op.operands, Call.operands])]; exact hy) hb h63 k
end eff
end Go.Ab
namespace Go.Ab
open Go.ChangeShapes Go.WideShapes
variable [Tabs]
theorem env0_ok {w : World} (h : Tabs.is w) (hb : ∀ b, Tabs.blk b → b < w.heap.size) : EnvOK (env0 w) :=
  ⟨fun b hb => by have hb' : w.heap.size ≤ b := hb
                  have : w.heap[b]? = none := by simpa using hb'
                  simp [env0, this], fun i o h => by simp [env0] at h, fun i j b hi => by simp [env0] at hi, fun i b hi => by simp [env0] at hi, h, fun b hk => ⟨hb b hk, fun i hi => by simp [env0] at hi⟩⟩
section
variable {H : Type} {enc : TypeId × Value → H} {P : Program} {w : World} {base : Nat} {spare : Nat → Bool} {held : Bool}
theorem trodAll_stays (hl : laidOutB P = true) {W W' : World} (hheap : ∀ b, b < W.heap.size → W'.heap[b]? = W.heap[b]?) {sp' : Nat → Bool} :
    ∀ {ts : List TypeId} {vs : List Value} {ds : List (DataW H)} {ps : List MemPlace}, (∀ t ∈ ts, P.readableRec t = true ∧ t < P.types.size) → DataW.TrodAll enc P W base (fun _ => true) true ts vs ds ps → (∀ p ∈ ps, p.block < W.heap.size) → (∀ p ∈ ps, sp' p.block = true) →
      DataW.TrodAll enc P W' base sp' true ts vs ds ps
  | [], _, _, _, _, h, _, _ => by
    obtain ⟨rfl, rfl, rfl⟩ := trodAll_nil h
    exact trodAll_mk0
  | t :: ts, _, _, _, ht, h, hlt, hs => by
    obtain ⟨v, vs1, d, ds1, a, b, rfl, rfl, rfl, h1, h2⟩ := trodAll_cons h
    refine trodAll_cons_mk (WideElems.Trod_stays hl (ht t (by simp)).1 (ht t (by simp)).2 h1 (fun p hp => ?_) (fun p hp => hs p (by simp [hp]))) (trodAll_stays hl hheap (fun u hu => ht u (List.mem_cons_of_mem _ hu)) h2 (fun p hp => hlt p (by simp [hp])) (fun p hp => hs p (by simp [hp])))
    have hb := hheap p.block (hlt p (by simp [hp]))
    cases p with
    | cell b o => exact cell?_of_heap hb
    | map b => exact hb
/-- **What a law's row asks of a call that returns true and leaves what it met.** -/
theorem post_true {f : Func} {s : ChangeSpec} {W W' : World} {args : Array Value} {ds gs : List (DataW H)} {before : List MemPlace} {tb : TypeId} (hl : laidOutB P = true) (hread : ∀ t ∈ f.params.toList, P.readableRec t = true ∧ t < P.types.size)
    (hres : f.resultTypes = #[tb]) (htb : P.underlying tb = some .bool) (hvars : s.vars = []) (hspec : (s.fn H ds).results = [.lit (.bool true)] ∧ (s.fn H ds).args = ds ∧ (s.fn H ds).vars = [])
    (hW : DataW.Whole enc P f.params.toList s.vars false W args.toList ds gs before) (hheap : ∀ b, b < W.heap.size → W'.heap[b]? = W.heap[b]?) (hst : Still W W') :
    s.post enc P f false true false false W args (.bool true) W' := by
  have hlt := hW.lt
  have hW0 := hW
  obtain ⟨p, q, h1, h2, rfl, _, _⟩ := hW
  rw [hvars] at h2
  obtain ⟨rfl, rfl⟩ := trodVars_none h2
  simp only [List.append_nil] at hlt
  obtain ⟨e1, e2, e3⟩ := hspec
  refine ⟨ds, [], p ++ [], [], p, [], hW0, ?_, ?_, ?_, ?_, fun h => by cases h⟩
  · rw [List.append_nil, e1, hres]
    exact trodAll_cons_mk (RowKit.shut_bool htb _) trodAll_mk0
  · rw [List.append_nil, e2]
    exact trodAll_stays hl hheap hread h1 hlt (fun p hp => by simpa using hlt p hp)
  · rw [List.append_nil, e3, hvars]; rfl
  · refine ⟨hst.1, hst.2, fun i hi => ?_⟩
    rw [hheap i hi]
    split <;> simp_all
theorem APure.law {f : FuncId} {args : List AV} {W : World} {vs : Array Value} (hc : APure P f args (.raw (.bool true))) (ht : Tabs.is W) (hb : ∀ b, Tabs.blk b → b < W.heap.size) (hr : RepL (env0 W) args vs.toList) :
    Calls P f vs W fun x W' => x = .returned (.bool true) ∧ (∀ b, b < W.heap.size → W'.heap[b]? = W.heap[b]?) ∧ Still W W' := by
  refine ((hc (env0 W) vs (env0_ok ht hb) hr).calls (fun k => FW_room none k)).mono ?_
  rintro x w' ⟨u, e', rfl, rfl, hx, hu⟩
  rw [Rep] at hu; subst hu
  exact ⟨rfl, hx.heap, hx.still⟩
end
end Go.Ab
namespace Hd
open Ni (inn)
def chg (off long x : Int) : Bool := decide (0 ≤ x) && !inn x (lo off long) (hi off long)
end Hd
namespace St
open Ni (inn)
open Hd (every getD_at mem_every)
def plIn (p : Ply) (n : Int) : Bool := inn n 0 (p.hts.length - 1)
def handsK (p : Ply) (x : Scn) (k : Nat) : Int := max 0 (x.knocks - 1) + ((x.moved.take k).map fun f => (fg p f).hands).sum
theorem handsK_0 (p : Ply) (x : Scn) : handsK p x 0 = max 0 (x.knocks - 1) := by simp [handsK]
theorem handsK_succ {p : Ply} {x : Scn} {k : Nat} (h : k < x.moved.length) : handsK p x (k + 1) = handsK p x k + (fg p x.moved[k]).hands := by
  unfold handsK; rw [List.take_succ_eq_append_getElem h, List.map_append, List.sum_append]; simp; omega
theorem handsK_all (p : Ply) (x : Scn) : handsK p x x.moved.length = hands p x := by unfold handsK hands; rw [List.take_length]
end St
namespace St
open Ni (inn)
open Hd (every getD_at mem_every every_rising)
theorem okL_inj {b : Bool} {p : Ply} {x : Scn} {l : List Int} (h : okL b p x l = true) : inj l = true := by
  unfold okL okI plc at h; unfold inj
  simp only [Bool.and_eq_true, Bool.not_eq_true', decide_eq_false_iff_not] at h ⊢
  exact fun q => h.1.1 (.inr q)
theorem arr_filter (b : Bool) (p : Ply) (x : Scn) : arr b p x = (dfs inj p.hts.length x.rest.length []).filter (suits b p x) := by
  unfold arr
  rw [dfs_filter (ok := inj) (fun l h => okL_inj h)]
  exact List.filter_congr fun l _ => suits_good b p x l
def stands (p : Ply) (x : Scn) (l : List Int) : Bool := decide (∀ i, i < l.length → ¬ (l.getD i 0 ∈ l.take i ∨ l.getD i 0 ∈ x.taken ∨ ((rf p x i).side = 1 ∧ p.left ≤ l.getD i 0) ∨ ((rf p x i).side = 2 ∧ l.getD i 0 < p.left)))
def ranks (p : Ply) (x : Scn) (l : List Int) : Bool := decide (∀ i, i < l.length → ht p (l.getD i 0) ≤ (rf p x i).rank ∧ ∀ k, k < l.length → clash p x l i k = false)
theorem rf_B {p : Ply} (B : PlB p) {x : Scn} (X : ScB p x) {i : Nat} (hi : i < x.rest.length) : (1 ≤ (rf p x i).side ∧ (rf p x i).side ≤ 3) ∧ (1 ≤ (rf p x i).rank ∧ (rf p x i).rank ≤ 9) := by
  have h := (rising_iff.1 X.rs).2 x.rest[i] (List.getElem_mem hi)
  unfold rf; rw [getD_at hi]
  exact ⟨(fg_B B h.1 h.2).1, (fg_B B h.1 h.2).2.1⟩
theorem plc_stands {p : Ply} (B : PlB p) {x : Scn} (X : ScB p x) {l : List Int} {i : Nat} (hi : i < x.rest.length) :
    plc p x l i = true ↔ ¬ (l.getD i 0 ∈ l.take i ∨ l.getD i 0 ∈ x.taken ∨ ((rf p x i).side = 1 ∧ p.left ≤ l.getD i 0) ∨ ((rf p x i).side = 2 ∧ l.getD i 0 < p.left)) := by
  have hb := (rf_B B X hi).1
  unfold plc lf
  rw [Bool.and_eq_true, Bool.not_eq_true', decide_eq_false_iff_not, Bool.or_eq_true, decide_eq_true_eq, beq_iff_eq, decide_eq_decide]
  constructor
  · rintro ⟨h1, h2⟩ h3
    rcases h3 with h3 | h3 | h3 | h3
    · exact h1 (.inr h3)
    · exact h1 (.inl h3)
    · rcases h2 with h2 | h2 <;> omega
    · rcases h2 with h2 | h2 <;> omega
  · intro h
    refine ⟨fun q => h (by rcases q with q | q; exact .inr (.inl q); exact .inl q), ?_⟩
    have h3 : ¬ ((rf p x i).side = 1 ∧ p.left ≤ l.getD i 0) := fun q => h (.inr (.inr (.inl q)))
    have h4 : ¬ ((rf p x i).side = 2 ∧ l.getD i 0 < p.left) := fun q => h (.inr (.inr (.inr q)))
    omega
theorem clash_self (p : Ply) (x : Scn) (l : List Int) (i : Nat) : clash p x l i i = false := by unfold clash; simp
theorem suits_stands {p : Ply} (B : PlB p) {x : Scn} (X : ScB p x) {l : List Int} (hl : l.length = x.rest.length) : suits false p x l = stands p x l := by
  unfold suits stands
  rw [decide_eq_decide]
  refine forall_congr' fun i => forall_congr' fun hi => ?_
  unfold okI; rw [← plc_stands B X (by omega)]; simp
theorem suits_ranks {p : Ply} (B : PlB p) {x : Scn} (X : ScB p x) {l : List Int} (hl : l.length = x.rest.length) : suits true p x l = (ranks p x l && stands p x l) := by
  rw [← suits_stands B X hl]
  unfold suits ranks
  rw [Bool.eq_iff_iff, Bool.and_eq_true, decide_eq_true_eq, decide_eq_true_eq, decide_eq_true_eq]
  unfold okI low rkd
  simp only [Bool.and_eq_true, Bool.or_eq_true, decide_eq_true_eq, Bool.not_true, Bool.not_false, true_or, and_true, Bool.false_eq_true, false_or]
  constructor
  · intro h
    refine ⟨fun i hi => ⟨(h i hi).2.1, fun k hk => ?_⟩, fun i hi => (h i hi).1⟩
    rcases Nat.lt_trichotomy i k with q | q | q
    · exact ((h k hk).2.2 i q).1
    · subst q; exact clash_self _ _ _ _
    · exact ((h i hi).2.2 k q).2
  · rintro ⟨h1, h2⟩ i hi
    exact ⟨h2 i hi, (h1 i hi).1, fun j hj => ⟨(h1 j (by omega)).2 i hi, (h1 i hi).2 j (by omega)⟩⟩
end St
namespace Go.Proofs.YtfmpabgblbbcdaaGreatDoor
open Go Go.Ab Ni St
open Hd hiding sz
abbrev C (c : UInt8) : AV := .raw (.int .u8 c.toNat)
theorem rin_pure (n lo hi : Int) : APure Tryz.prog 77 [I n, I lo, I hi] (B (inn n lo hi)) := by
  refine ap Tryz.func77 (fun e0 he0 => ?_)
  refine wz 5 ?_
  refine sz 10 (fun g1 g1' => ?_) (fun g1 g1' => ?_)
  ·refine wz 5 ?_
   exact rz rfl (Less.eq (by simp [inn, *]))
  refine wz 5 ?_
  exact rz rfl (Less.eq (by simp [inn, *]))
end Go.Proofs.YtfmpabgblbbcdaaGreatDoor
namespace Go.Proofs.YtfmpabgblbbcdaaGreatDoor
open Go Go.Ab Ni St
open Hd hiding sz
def plsOK (p : Ply) (x : Scn) (l : List Int) : Bool := decide (l.length = x.rest.length) && !l.any fun n => !inn n 0 (p.hts.length - 1)
theorem plsOK_iff {p : Ply} {x : Scn} {l : List Int} : plsOK p x l = true ↔ l.length = x.rest.length ∧ ∀ a ∈ l, 0 ≤ a ∧ a < p.hts.length := by
  unfold plsOK inn
  rw [Bool.and_eq_true, decide_eq_true_eq, Bool.not_eq_true', List.any_eq_false]
  simp only [Bool.not_eq_true', Bool.not_eq_false, decide_eq_false_iff_not, Decidable.not_not, Bool.not_eq_true]
  exact ⟨fun h => ⟨h.1, fun a ha => by have := h.2 a ha; simp at this; omega⟩, fun h => ⟨h.1, fun a ha => by have := h.2 a ha; simp; omega⟩⟩
theorem suits_no {b : Bool} {p : Ply} {x : Scn} {l : List Int} {k : Nat} (hkl : k < l.length) (h : okL b p x (l.take (k + 1)) = false) : suits b p x l = false := by
  rw [okL_take hkl] at h
  unfold suits; rw [decide_eq_false_iff_not]; intro q; rw [q k hkl] at h; cases h
theorem arepl1_pure (p : Ply) (x : Scn) (n : Int) (hh : p.hts.length ≤ 1000000) : APure Tryz.prog 160 [I n, .iptr (stC p x)] (B (!inn n 0 (p.hts.length - 1))) := by
  refine ap Tryz.func160 (fun e0 he0 => ?_)
  refine wz 7 ?_
  refine kz az (in_pure _ _ _) ?_
  refine wz 2 ?_
  exact rz rfl jz
theorem arepl_pure (p : Ply) (x : Scn) (l : List Int) (hl : l.length ≤ 1000000) (hh : p.hts.length ≤ 1000000) (hr : x.rest.length ≤ 1000000) : APure Tryz.prog 119 [stA p x, ints l] (B (plsOK p x l)) := by
  refine ap Tryz.func119 (fun e0 he0 => ?_)
  refine vz 2 ?_
  refine sq_nil ?_
  refine aw_seq ?_
  refine aw_sub (sub_iptrK [1, 4] 2 (j := 0) (l := stC p x) rfl rfl) ?_
  refine wz 8 ?_
  refine sz 12 (fun g1_7 g1_7' => ?_) (fun g1_7 g1_7' => ?_)
  ·have hlr : l.length = x.rest.length := by omega
   refine wz 2 ?_
   refine sq_yes rfl rfl (less_b g1_7) rfl (ev_call en130.h jz (intF_any (cap := [.iptr (stC p x)]) (q := fun n => !inn n 0 (p.hts.length - 1)) l hl en160.h (fun i hi => arepl1_pure p x _ hh) (by simp [AV.pureL, AV.pureB])) ⟨jz, jz, trivial⟩) ?_
   refine wz 3 ?_
   exact rz rfl (Less.eq (congrArg B (by unfold plsOK; simp [hlr])))
  have hlr : ¬ l.length = x.rest.length := by omega
  refine wz 6 ?_
  exact rz rfl (Less.eq (congrArg B (by unfold plsOK; simp [hlr])))
theorem rests_pure {p : Ply} (gP : PlB p) {x : Scn} (gX : ScB p x) {l : List Int} (hl : l.length = x.rest.length) (hm : ∀ a ∈ l, 0 ≤ a ∧ a < p.hts.length) : APure Tryz.prog 120 [stA p x, ints l] (B (suits true p x l)) := by
  refine ap Tryz.func120 (fun e0 he0 => ?_)
  refine aw_seq ?_
  have hr4 := gX.r4
  refine wz 5 ?_
  refine aw_loopk (ι := { k : Nat // k ≤ l.length ∧ ∀ i, i < k → okI true p x l i = true }) [1, 2, 9] (fun k => [(10, I (k.1 : Nat))]) (fun H k => H) (fun k => l.length - k.1) (⟨0, Nat.zero_le _, by omega⟩) ⟨jz, jz, jz, jz, trivial⟩ rfl ?_
  rintro ⟨k, hk, hok⟩
  refine nz ?_
  refine wz 1 ?_
  refine iz (fun c_11 c_11' => ?_) (fun c_11 c_11' => ?_)
  ·have hkl : k < l.length := by omega
   have htl : k + 1 = (l.take (k + 1)).length := by rw [List.length_take]; omega
   refine wz 2 ?_
   refine kz az (rules_pure) ?_
   refine wz 1 ?_
   refine aw_loopk (ι := { j : Nat // j ≤ 3 ∧ ∀ i, i < j → rV p x (l.take (k + 1)) k i = true }) [1, 2, 5, 9, 10, 13] (fun j => [(14, I (j.1 : Nat))]) (fun H j => H) (fun j => 3 - j.1) (⟨0, by omega, by omega⟩) ⟨jz, jz, jz, jz, jz, jz, jz, trivial⟩ rfl ?_
   rintro ⟨j, hj, hall⟩
   refine nz ?_
   refine wz 1 ?_
   refine iz (fun c_15 c_15' => ?_) (fun c_15 c_15' => ?_)
   ·have hj3 : j < 3 := by omega
    refine wz 0 ?_
    refine sq_ev rfl (ev_indexv (k := j) (v := .fn (.func (rF j)) [] []) ar192.h ty191.h jz jz rfl hj3 (by match j, hj3 with | 0, _ => rfl | 1, _ => rfl | 2, _ => rfl)) ?_
    refine wz 1 ?_
    refine aw_draw 8 mo (by kernel_rfl) ?_
    refine dz 5 ?_
    refine dr_ev rfl (ev_less (ev_slice (lo := 0) (hi := k + 1) sl22.h jz rfl (less_int (by omega)) (by omega) (by simp; omega)) (Less.eq (b := ints (l.take (k + 1))) (by rw [List.drop_zero, ← List.map_take]))) ?_
    refine dr_ev rfl (ev_call (rF_ent j hj3) jz (rF_pure gP gX (i := k) (l := l.take (k + 1)) htl (by omega) (fun a ha => hm a (List.mem_of_mem_take ha)) j hj3) ⟨jz, jz, trivial⟩) ?_
    refine dz 1 ?_
    refine wz 0 ?_
    refine iz (fun c_24 c_24' => ?_) (fun c_24 c_24' => ?_)
    ·have hno : suits true p x l = false := suits_no hkl (rV_no htl (show j < many true from hj3) (by simpa using c_24))
     refine wz 1 ?_
     exact rz rfl (Less.eq (by rw [hno]))
    have hrv : rV p x (l.take (k + 1)) k j = true := by simpa using c_24
    refine wz 2 ?_
    exact ⟨⟨j + 1, by omega, fun i hi => by rcases Nat.lt_or_ge i j with z | z; exact hall i z; (obtain rfl : i = j := by omega); exact hrv⟩, by simp only; omega, Sub.slots ⟨jz, jz, jz, jz, jz, jz, jz, trivial⟩⟩
   obtain rfl : j = 3 := by omega
   have hst : okI true p x l k = true := by rw [← okL_take hkl]; exact rV_all htl hall
   refine wz 2 ?_
   exact ⟨⟨k + 1, by omega, fun i hi => by rcases Nat.lt_or_ge i k with z | z; exact hok i z; (obtain rfl : i = k := by omega); exact hst⟩, by simp only; omega, Sub.slots ⟨jz, jz, jz, jz, trivial⟩⟩
  obtain rfl : k = l.length := by omega
  have hall : suits true p x l = true := decide_eq_true hok
  refine wz 1 ?_
  exact rz rfl (Less.eq (by rw [hall]))
end Go.Proofs.YtfmpabgblbbcdaaGreatDoor
namespace Go.Proofs.YtfmpabgblbbcdaaGreatDoor
open Go Go.Ab Ni St
open Hd hiding sz
theorem xplan_b1 {p : Ply} (hh : p.hts.length ≤ 1000000) (hf : p.figs.length ≤ 1000000) (hs : p.scs.length ≤ 1000000) (hx : ∀ x ∈ p.scs, x.moved.length ≤ 1000000 ∧ x.rest.length ≤ 1000000 ∧ x.taken.length ≤ 1000000) (h1 : plOK p = false) : APure Tryz.prog 61 [plA p] (.tup [.sl 1 [], I 0, I 2]) := by
  refine ap Tryz.func61 (fun e0 he0 => ?_)
  refine vz 4 ?_
  refine sq_nil ?_
  refine aw_seq ?_
  refine aw_seq ?_
  have hpl := isplay_pure p hh hf hs hx
  rw [h1] at hpl
  refine wz 1 ?_
  refine kz az (hpl) ?_
  refine wz 5 ?_
  exact retQ_pure (v := .tup [.raw (.slice none 0 0), .raw _, .raw _]) rfl rfl (less_tup ⟨less_nil 1, jz, jz, trivial⟩)
theorem xplan_no {p : Ply} (hh : p.hts.length ≤ 1000000) (hf : p.figs.length ≤ 1000000) (hs : p.scs.length ≤ 1000000) (hx : ∀ x ∈ p.scs, x.moved.length ≤ 1000000 ∧ x.rest.length ≤ 1000000 ∧ x.taken.length ≤ 1000000) (h1 : plOK p = true) {n : Nat} (h2 : failsAt p = some n) : APure Tryz.prog 61 [plA p] (.tup [.sl 1 [], I 0, I 7]) := by
  refine ap Tryz.func61 (fun e0 he0 => ?_)
  refine vz 4 ?_
  refine sq_nil ?_
  refine aw_seq ?_
  refine aw_seq ?_
  have hpl := isplay_pure p hh hf hs hx
  rw [h1] at hpl
  have gP := plOK_B h1
  refine wz 1 ?_
  refine kz az (hpl) ?_
  refine wz 3 ?_
  refine kz az (fails_n gP h2) ?_
  refine sq_ev rfl (ev_mv (v := .tup [.agg [I n, I (lacks p (sc p n))], I 7]) jz) ?_
  refine wz 12 ?_
  exact retQ_pure (v := .tup [.raw (.slice none 0 0), .raw _, .raw _]) rfl rfl (less_tup ⟨less_nil 1, jz, jz, trivial⟩)
end Go.Proofs.YtfmpabgblbbcdaaGreatDoor
namespace Go.Proofs.YtfmpabgblbbcdaaGreatDoor
open Go Go.Ab Ni St
open Hd hiding sz
def plnI (p : Ply) (L : List (List Int)) (n : Nat) : Bool := plsOK p (sc p n) (L.getD n []) && suits true p (sc p n) (L.getD n [])
def plnOK (p : Ply) (L : List (List Int)) : Bool := decide (L.length = p.scs.length) && decide (∀ n, n < L.length → plnI p L n = true)
def chgK (p : Ply) (L : List (List Int)) (m : Nat) : Int := ((List.range m).map fun (n : Nat) => stp p n (L.getD n []) (L.getD (n + 1) [])).sum
def chg (p : Ply) (L : List (List Int)) : Int := chgK p L (L.length - 1)
theorem chgK_succ (p : Ply) (L : List (List Int)) (m : Nat) : chgK p L (m + 1) = chgK p L m + stp p m (L.getD m []) (L.getD (m + 1) []) := by
  unfold chgK; rw [List.range_succ, List.map_append, List.sum_append]; simp
theorem chgK_bd {p : Ply} (gP : PlB p) (L : List (List Int)) : ∀ m, m + 1 ≤ p.scs.length → 0 ≤ chgK p L m ∧ chgK p L m ≤ 4 * m
  | 0, _ => by simp [chgK]
  | m + 1, h => by
    have := chgK_bd gP L m (by omega)
    have h2 := turns_bd gP (n := m) (by omega) (L.getD m []) (L.getD (m + 1) [])
    rw [chgK_succ]
    have e : stp p m (L.getD m []) (L.getD (m + 1) []) = turns (sc p m) (sc p (m + 1)) (L.getD m []) (L.getD (m + 1) []) := rfl
    omega
theorem pln_get {p : Ply} {L : List (List Int)} (h : plnOK p L = true) : L.length = p.scs.length ∧ ∀ n, n < L.length → plnI p L n = true := by
  unfold plnOK at h; simpa using h
theorem pln_no {p : Ply} {L : List (List Int)} (hl : L.length = p.scs.length) (h : plnOK p L = false) (all : ∀ n, n < L.length → plnI p L n = true) : False := by
  have : plnOK p L = true := by unfold plnOK; simp only [Bool.and_eq_true, decide_eq_true_eq]; exact ⟨hl, all⟩
  rw [this] at h; cases h
theorem plnI_at {p : Ply} {L : List (List Int)} {n : Nat} (h : n < L.length) : plnI p L n = (plsOK p (sc p n) L[n] && suits true p (sc p n) L[n]) := by unfold plnI; rw [getD_at h]
theorem xchg_b1 {p : Ply} (hh : p.hts.length ≤ 1000000) (hf : p.figs.length ≤ 1000000) (hs : p.scs.length ≤ 1000000) (hx : ∀ x ∈ p.scs, x.moved.length ≤ 1000000 ∧ x.rest.length ≤ 1000000 ∧ x.taken.length ≤ 1000000) (L : List (List Int)) (hL : L.length ≤ 1000000) (hl : ∀ l ∈ L, l.length ≤ 1000000) (h1 : plOK p = false) : APure Tryz.prog 62 [plA p, hds L] (.tup [I 0, I 2]) := by
  refine ap Tryz.func62 (fun e0 he0 => ?_)
  refine vz 3 ?_
  refine sq_nil ?_
  refine aw_seq ?_
  refine aw_seq ?_
  have hpl := isplay_pure p hh hf hs hx
  rw [h1] at hpl
  refine wz 1 ?_
  refine kz az (hpl) ?_
  refine wz 12 ?_
  exact retQ_pure (v := .tup [.raw _, .raw _]) rfl rfl (less_tup ⟨jz, jz, trivial⟩)
theorem xchg_b2 {p : Ply} (hh : p.hts.length ≤ 1000000) (hf : p.figs.length ≤ 1000000) (hs : p.scs.length ≤ 1000000) (hx : ∀ x ∈ p.scs, x.moved.length ≤ 1000000 ∧ x.rest.length ≤ 1000000 ∧ x.taken.length ≤ 1000000) (L : List (List Int)) (hL : L.length ≤ 1000000) (hl : ∀ l ∈ L, l.length ≤ 1000000) (h1 : plOK p = true) (h2 : ¬ L.length = p.scs.length) : APure Tryz.prog 62 [plA p, hds L] (.tup [I 0, I 2]) := by
  refine ap Tryz.func62 (fun e0 he0 => ?_)
  refine vz 3 ?_
  refine sq_nil ?_
  refine aw_seq ?_
  refine aw_seq ?_
  have hpl := isplay_pure p hh hf hs hx
  rw [h1] at hpl
  refine wz 1 ?_
  refine kz az (hpl) ?_
  refine wz 9 ?_
  refine iz (fun c_21 c_21' => ?_) (fun c_21 c_21' => ?_)
  ·refine wz 2 ?_
   exact retQ_pure (v := .tup [.raw _, .raw _]) rfl rfl (less_tup ⟨jz, jz, trivial⟩)
  exfalso
  omega
theorem xchg_ok {p : Ply} (hh : p.hts.length ≤ 1000000) (hf : p.figs.length ≤ 1000000) (hs : p.scs.length ≤ 1000000) (hx : ∀ x ∈ p.scs, x.moved.length ≤ 1000000 ∧ x.rest.length ≤ 1000000 ∧ x.taken.length ≤ 1000000) (L : List (List Int)) (hL : L.length ≤ 1000000) (hl : ∀ l ∈ L, l.length ≤ 1000000) (h1 : plOK p = true) (h2 : L.length = p.scs.length) (h3 : plnOK p L = true) : APure Tryz.prog 62 [plA p, hds L] (.tup [I (chg p L), I 0]) := by
  refine ap Tryz.func62 (fun e0 he0 => ?_)
  refine vz 3 ?_
  refine sq_nil ?_
  refine aw_seq ?_
  refine aw_seq ?_
  have hpl := isplay_pure p hh hf hs hx
  rw [h1] at hpl
  have gP := plOK_B h1
  have hns := gP.ns
  have hnh := gP.nh
  refine wz 1 ?_
  refine kz az (hpl) ?_
  refine wz 9 ?_
  refine iz (fun c_21 c_21' => ?_) (fun c_21 c_21' => ?_)
  ·exfalso
   omega
  refine wz 3 ?_
  refine aw_loopk (ι := { n : Nat // n ≤ L.length ∧ ∀ j, j < n → plnI p L j = true }) [1, 2, 22, 23] (fun g => [(24, I (g.1 : Nat))]) (fun H g => H) (fun g => L.length - g.1) (⟨0, Nat.zero_le _, by omega⟩) ⟨jz, jz, jz, jz, jz, trivial⟩ rfl ?_
  rintro ⟨n, hn, hok⟩
  refine nz ?_
  refine wz 1 ?_
  refine iz (fun c_25 c_25' => ?_) (fun c_25 c_25' => ?_)
  ·have hnL : n < L.length := by omega
   have hnl : n < p.scs.length := by omega
   refine vz 5 ?_
   refine sq_nil ?_
   refine aw_seq ?_
   have gX := sc_B gP hnl
   have hap := arepl_pure p (sc p n) L[n] (hl _ (List.getElem_mem hnL)) hh (by have := gX.r4; omega)
   refine wz 2 ?_
   refine kz az (stage_pure hnl hs) ?_
   refine wz 4 ?_
   refine kz az (hap) ?_
   refine wz 2 ?_
   refine sz 36 (fun g7_4 g7_4' => ?_) (fun g7_4 g7_4' => ?_)
   ·exfalso
    have h4 := (pln_get h3).2 n hnL
    rw [plnI_at hnL] at h4
    simp_all
   have hpo : plsOK p (sc p n) L[n] = true := by simpa using g7_4
   refine wz 2 ?_
   refine ky az (rests_pure gP gX (plsOK_iff.1 hpo).1 (plsOK_iff.1 hpo).2) ?_
   refine wz 2 ?_
   refine iz (fun c_41 c_41' => ?_) (fun c_41 c_41' => ?_)
   ·exfalso
    have h4 := (pln_get h3).2 n hnL
    rw [plnI_at hnL] at h4
    simp_all
   have hnok : plnI p L n = true := by rw [plnI_at hnL]; simp_all
   refine wz 2 ?_
   exact ⟨⟨n + 1, by omega, fun j hj => (by by_cases e : j = n; (subst e; exact hnok); exact hok j (by omega))⟩, by simp only; omega, sb 1 ⟨jz, jz, jz, jz, jz, trivial⟩⟩
  obtain rfl : n = L.length := by omega
  refine wz 5 ?_
  refine aw_loopk (ι := { m : Nat // m ≤ L.length - 1 }) [1, 2, 45] (fun g => [(46, I (g.1 : Nat)), (9, I (chgK p L g.1))]) (fun H g => H) (fun g => L.length - 1 - g.1) (⟨0, Nat.zero_le _⟩) ⟨jz, (by exact less_int rfl), jz, jz, jz, trivial⟩ rfl ?_
  rintro ⟨m, hm⟩
  refine nz ?_
  have hck := chgK_bd gP L m (by omega)
  refine wz 1 ?_
  refine iz (fun c_47 c_47' => ?_) (fun c_47 c_47' => ?_)
  ·have hm1 : m + 1 < p.scs.length := by omega
   have hla := (plsOK_iff.1 (Bool.and_eq_true_iff.1 ((plnI_at (by omega)).symm.trans (hok m (by omega)))).1).1
   have hlb := (plsOK_iff.1 (Bool.and_eq_true_iff.1 ((plnI_at (by omega)).symm.trans (hok (m + 1) (by omega)))).1).1
   have htb := turns_bd gP (n := m) (by omega) (L.getD m []) (L.getD (m + 1) [])
   refine wz 2 ?_
   refine aw_draw 14 mo (by kernel_rfl) ?_
   refine dz 5 ?_
   refine dr_ev rfl (ev_index_map (k := m) (xs := L) sl61.h jz jz rfl (by omega)) ?_
   refine dz 4 ?_
   refine dr_ev rfl (ev_index_map (k := m + 1) (xs := L) sl61.h jz jz (by omega) (by omega)) ?_
   refine dz 1 ?_
   refine dkz az (turns_pure gP (n := m) hm1 (a := L[m]) (b := L[m + 1]) hla hlb) ?_
   refine dr_ev rfl (ev_add (q := chgK p L m + stp p m (L.getD m []) (L.getD (m + 1) [])) jz (by exact less_int (by rw [getD_at (show m < L.length by omega), getD_at (show m + 1 < L.length by omega)])) (wr (by omega) (by omega))) ?_
   refine dr_end ?_
   refine wz 3 ?_
   exact ⟨⟨m + 1, by omega⟩, by simp only; omega, sb 1 ⟨jz, (by exact less_int (chgK_succ p L m).symm), jz, jz, jz, trivial⟩⟩
  obtain rfl : m = L.length - 1 := by omega
  refine wz 3 ?_
  exact retQ_pure (v := .tup [.raw _, .raw _]) rfl rfl (less_tup ⟨jz, jz, trivial⟩)
theorem xchg_b3 {p : Ply} (hh : p.hts.length ≤ 1000000) (hf : p.figs.length ≤ 1000000) (hs : p.scs.length ≤ 1000000) (hx : ∀ x ∈ p.scs, x.moved.length ≤ 1000000 ∧ x.rest.length ≤ 1000000 ∧ x.taken.length ≤ 1000000) (L : List (List Int)) (hL : L.length ≤ 1000000) (hl : ∀ l ∈ L, l.length ≤ 1000000) (h1 : plOK p = true) (h2 : L.length = p.scs.length) (h3 : plnOK p L = false) : APure Tryz.prog 62 [plA p, hds L] (.tup [I 0, I 2]) := by
  refine ap Tryz.func62 (fun e0 he0 => ?_)
  refine vz 3 ?_
  refine sq_nil ?_
  refine aw_seq ?_
  refine aw_seq ?_
  have hpl := isplay_pure p hh hf hs hx
  rw [h1] at hpl
  have gP := plOK_B h1
  have hns := gP.ns
  have hnh := gP.nh
  refine wz 1 ?_
  refine kz az (hpl) ?_
  refine wz 9 ?_
  refine iz (fun c_21 c_21' => ?_) (fun c_21 c_21' => ?_)
  ·exfalso
   omega
  refine wz 3 ?_
  refine aw_loopk (ι := { n : Nat // n ≤ L.length ∧ ∀ j, j < n → plnI p L j = true }) [1, 2, 22, 23] (fun g => [(24, I (g.1 : Nat))]) (fun H g => H) (fun g => L.length - g.1) (⟨0, Nat.zero_le _, by omega⟩) ⟨jz, jz, jz, jz, jz, trivial⟩ rfl ?_
  rintro ⟨n, hn, hok⟩
  refine nz ?_
  refine wz 1 ?_
  refine iz (fun c_25 c_25' => ?_) (fun c_25 c_25' => ?_)
  ·have hnL : n < L.length := by omega
   have hnl : n < p.scs.length := by omega
   refine vz 5 ?_
   refine sq_nil ?_
   refine aw_seq ?_
   have gX := sc_B gP hnl
   have hap := arepl_pure p (sc p n) L[n] (hl _ (List.getElem_mem hnL)) hh (by have := gX.r4; omega)
   refine wz 2 ?_
   refine kz az (stage_pure hnl hs) ?_
   refine wz 4 ?_
   refine kz az (hap) ?_
   refine wz 2 ?_
   refine sz 36 (fun g7_4 g7_4' => ?_) (fun g7_4 g7_4' => ?_)
   ·refine wz 8 ?_
    exact retQ_pure (v := .tup [.raw _, .raw _]) rfl rfl (less_tup ⟨jz, jz, trivial⟩)
   have hpo : plsOK p (sc p n) L[n] = true := by simpa using g7_4
   refine wz 2 ?_
   refine ky az (rests_pure gP gX (plsOK_iff.1 hpo).1 (plsOK_iff.1 hpo).2) ?_
   refine wz 2 ?_
   refine iz (fun c_41 c_41' => ?_) (fun c_41 c_41' => ?_)
   ·refine wz 2 ?_
    exact retQ_pure (v := .tup [.raw _, .raw _]) rfl rfl (less_tup ⟨jz, jz, trivial⟩)
   have hnok : plnI p L n = true := by rw [plnI_at hnL]; simp_all
   refine wz 2 ?_
   exact ⟨⟨n + 1, by omega, fun j hj => (by by_cases e : j = n; (subst e; exact hnok); exact hok j (by omega))⟩, by simp only; omega, sb 1 ⟨jz, jz, jz, jz, jz, trivial⟩⟩
  obtain rfl : n = L.length := by omega
  exact (pln_no h2 h3 hok).elim
end Go.Proofs.YtfmpabgblbbcdaaGreatDoor
namespace Go.Proofs.YtfmpabgblbbcdaaGreatDoor
open Go Go.Ab Ni St
open Hd hiding sz
instance en118 : EnT Tryz.prog 118 := ⟨Ent.of Tryz.func118 (by kernel_rfl) rfl⟩
instance en19 : EnT Tryz.prog 19 := ⟨Ent.of Tryz.func19 (by kernel_rfl) rfl⟩
instance en22 : EnT Tryz.prog 22 := ⟨Ent.of Tryz.func22 (by kernel_rfl) rfl⟩
instance en27 : EnT Tryz.prog 27 := ⟨Ent.of Tryz.func27 (by kernel_rfl) rfl⟩
instance en57 : EnT Tryz.prog 57 := ⟨Ent.of Tryz.func57 (by kernel_rfl) rfl⟩
instance en60 : EnT Tryz.prog 60 := ⟨Ent.of Tryz.func60 (by kernel_rfl) rfl⟩
instance en77 : EnT Tryz.prog 77 := ⟨Ent.of Tryz.func77 (by kernel_rfl) rfl⟩
instance en78 : EnT Tryz.prog 78 := ⟨Ent.of Tryz.func78 (by kernel_rfl) rfl⟩
instance en95 : EnT Tryz.prog 95 := ⟨Ent.of Tryz.func95 (by kernel_rfl) rfl⟩
theorem all_of {α : Type} {q : α → Bool} {l : List α} (h : ∀ j, (hj : j < l.length) → q l[j] = true) : l.all q = true := List.all_eq_true.2 fun x hx => by obtain ⟨j, hj, rfl⟩ := List.getElem_of_mem hx; exact h j hj
theorem all_bad {α : Type} {q : α → Bool} {l : List α} {i : Nat} (hi : i < l.length) (h : q l[i] = false) : l.all q = false := by rw [List.all_eq_false]; exact ⟨_, List.getElem_mem hi, by rw [h]; simp⟩
theorem all_sym (a b : List Int) : (a.all fun n => !decide (n ∈ b)) = b.all fun n => !decide (n ∈ a) := by
  rw [Bool.eq_iff_iff, List.all_eq_true, List.all_eq_true]
  simp only [Bool.not_eq_true', decide_eq_false_iff_not]
  exact ⟨fun h n hn hm => h n hm hn, fun h n hn hm => h n hm hn⟩
def shX (x : Scn) : Bool := decide (x.moved.length ≤ 10) && decide (x.rest.length ≤ 10) && decide (x.taken.length ≤ 10)
def shB (p : Ply) : Bool := decide (p.hts.length ≤ 10) && decide (p.figs.length ≤ 8) && decide (p.scs.length ≤ 7) && decide (∀ i, (hi : i < p.scs.length) → i < 8 → shX p.scs[i] = true)
theorem shB_row {p : Ply} {i : Nat} (hi : i < p.scs.length) (h8 : i < 8) (h : shX p.scs[i] = false) : shB p = false := by
  unfold shB
  rw [decide_eq_false (p := ∀ i, (hi : i < p.scs.length) → i < 8 → shX p.scs[i] = true) (fun q => by rw [q i hi h8] at h; cases h)]; simp
theorem shB_fin {p : Ply} (h : ∀ i, (hi : i < p.scs.length) → i < 8 → shX p.scs[i] = true) : shB p = (decide (p.hts.length ≤ 10) && decide (p.figs.length ≤ 8) && decide (p.scs.length ≤ 7)) := by
  unfold shB; rw [decide_eq_true h, Bool.and_true]
theorem shB_len {p : Ply} (h : shB p = true) : p.hts.length ≤ 1000000 ∧ p.figs.length ≤ 1000000 ∧ p.scs.length ≤ 1000000 ∧ ∀ x ∈ p.scs, x.moved.length ≤ 1000000 ∧ x.rest.length ≤ 1000000 ∧ x.taken.length ≤ 1000000 := by
  unfold shB at h
  simp only [Bool.and_eq_true, decide_eq_true_eq] at h
  refine ⟨by omega, by omega, by omega, fun x hx => ?_⟩
  obtain ⟨i, hi, rfl⟩ := List.getElem_of_mem hx
  have := h.2 i hi (by omega)
  unfold shX at this
  simp only [Bool.and_eq_true, decide_eq_true_eq] at this
  omega
def slB (L : List (List Int)) : Bool := decide (L.length ≤ 7) && decide (∀ i, (hi : i < L.length) → i < 8 → L[i].length ≤ 10)
theorem slB_row {L : List (List Int)} {i : Nat} (hi : i < L.length) (h8 : i < 8) (h : ¬ L[i].length ≤ 10) : slB L = false := by
  unfold slB
  rw [decide_eq_false (p := ∀ i, (hi : i < L.length) → i < 8 → L[i].length ≤ 10) (fun q => h (q i hi h8))]; simp
theorem slB_fin {L : List (List Int)} (h : ∀ i, (hi : i < L.length) → i < 8 → L[i].length ≤ 10) : slB L = decide (L.length ≤ 7) := by
  unfold slB; rw [decide_eq_true h, Bool.and_true]
theorem slB_len {L : List (List Int)} (h : slB L = true) : L.length ≤ 1000000 ∧ ∀ l ∈ L, l.length ≤ 1000000 := by
  unfold slB at h
  simp only [Bool.and_eq_true, decide_eq_true_eq] at h
  refine ⟨by omega, fun x hx => ?_⟩
  obtain ⟨i, hi, rfl⟩ := List.getElem_of_mem hx
  have := h.2 i hi (by omega)
  omega
theorem pls_any {p : Ply} {l : List Int} : (!l.any fun n => !inn n 0 (p.hts.length - 1)) = l.all (plIn p) := by
  rw [List.not_any_eq_all_not]; congr 1; funext n; unfold plIn; simp
theorem has_pure (l : List Int) (n : Int) (hl : l.length ≤ 1000000) : APure Tryz.prog 27 [ints l, I n] (B (decide (n ∈ l))) := by
  refine ap Tryz.func27 (fun e0 he0 => ?_)
  refine wz 2 ?_
  refine aw_loopk (ι := { k : Nat // k ≤ l.length ∧ ∀ i, (hi : i < l.length) → i < k → l[i] ≠ n }) [0, 1] (fun i => [(5, I i.1)]) (fun H i => H) (fun i => l.length - i.1) (⟨0, Nat.zero_le _, by omega⟩) ⟨jz, jz, jz, trivial⟩ rfl ?_
  rintro ⟨k, hk, hok⟩
  refine nz ?_
  refine wz 4 ?_
  refine iz (fun c_9 c_9' => ?_) (fun c_9 c_9' => ?_)
  ·have hkL : k < l.length := by omega
   refine wz 6 ?_
   refine iz (fun c_17 c_17' => ?_) (fun c_17 c_17' => ?_)
   ·have hmem : n ∈ l := by have h5 := of_decide_eq_true c_17; exact h5 ▸ List.getElem_mem hkL
    refine wz 1 ?_
    exact rz rfl (Less.eq (by rw [decide_eq_true hmem]))
   refine wz 3 ?_
   exact ⟨⟨k + 1, by omega, fun i hi h => (by by_cases e : i = k; (subst e; simpa using c_17); exact hok i hi (by omega))⟩, by simp only; omega, Sub.slots ⟨jz, jz, jz, trivial⟩⟩
  obtain rfl : k = l.length := by omega
  have hno : ¬ n ∈ l := fun h => by obtain ⟨i, hi, h6⟩ := List.getElem_of_mem h; exact hok i hi hi h6
  refine wz 1 ?_
  exact rz rfl (Less.eq (by rw [decide_eq_false hno]))
theorem rrising_pure (l : List Int) (n : Nat) (hl : l.length ≤ 1000000) (hn : n ≤ 1000000) : APure Tryz.prog 95 [ints l, I n] (B (rising l n)) := by
  refine ap Tryz.func95 (fun e0 he0 => ?_)
  refine wz 2 ?_
  refine aw_loopk (ι := { k : Nat // k ≤ l.length ∧ ∀ i, (hi : i < l.length) → i < k → (0 ≤ l[i] ∧ l[i] < n) ∧ (0 < i → l[i - 1] < l[i]) }) [0, 1] (fun i => [(5, I i.1)]) (fun H i => H) (fun i => l.length - i.1) (⟨0, Nat.zero_le _, by omega⟩) ⟨jz, jz, jz, trivial⟩ rfl ?_
  rintro ⟨k, hk1, hok⟩
  refine nz ?_
  refine wz 4 ?_
  refine iz (fun c_9 c_9' => ?_) (fun c_9 c_9' => ?_)
  ·have hkl : k < l.length := by omega
   have hin : inn l[k] 0 ((n : Int) - 1) = true ↔ 0 ≤ l[k] ∧ l[k] ≤ (n : Int) - 1 := by unfold inn; simp
   refine wz 0 ?_
   refine aw_draw 24 mo (by kernel_rfl) ?_
   refine dz 6 ?_
   refine dkz az (rin_pure _ _ _) ?_
   refine dz 2 ?_
   refine dsz 20 (fun g4_8 g4_8' => ?_) (fun g4_8 g4_8' => ?_)
   ·have hb0 : ¬ (0 ≤ l[k] ∧ l[k] ≤ (n : Int) - 1) := fun q => by rw [hin.2 q] at g4_8; simp at g4_8
    have hno : rising l n = false := rising_no hkl (fun q => hb0 (by omega))
    refine dz 15 ?_
    refine wz 2 ?_
    exact rz rfl (Less.eq (by rw [hno]))
   have hb1 : 0 ≤ l[k] ∧ l[k] ≤ (n : Int) - 1 := hin.1 (by simpa using g4_8)
   refine dz 3 ?_
   refine dsz 23 (fun g4_11 g4_11' => ?_) (fun g4_11 g4_11' => ?_)
   ·refine dz 7 ?_
    refine dr_yes rfl rfl (less_b g4_11) rfl (ev_index_map (k := k - 1) sl22.h jz jz (by omega) (by omega)) ?_
    refine dz 4 ?_
    refine wz 0 ?_
    refine iz (fun c_35 c_35' => ?_) (fun c_35 c_35' => ?_)
    ·have hno : rising l n = false := rising_no hkl (fun q => by have h5 := q.2 (by omega); have h6 := of_decide_eq_true c_35; omega)
     refine wz 1 ?_
     exact rz rfl (Less.eq (by rw [hno]))
    have hst : (0 ≤ l[k] ∧ l[k] < n) ∧ (0 < k → l[k - 1] < l[k]) := ⟨by omega, fun q => by have := of_decide_eq_false c_35; omega⟩
    refine wz 3 ?_
    exact ⟨⟨k + 1, by omega, fun i hi q => by rcases Nat.lt_or_ge i k with q2 | q2; exact hok i hi q2; (obtain rfl : i = k := by omega); exact hst⟩, by simp only; omega, Sub.slots ⟨jz, jz, jz, trivial⟩⟩
   have hst : (0 ≤ l[k] ∧ l[k] < n) ∧ (0 < k → l[k - 1] < l[k]) := ⟨by omega, fun q => by omega⟩
   refine dz 12 ?_
   refine wz 4 ?_
   exact ⟨⟨k + 1, by omega, fun i hi q => by rcases Nat.lt_or_ge i k with q2 | q2; exact hok i hi q2; (obtain rfl : i = k := by omega); exact hst⟩, by simp only; omega, Sub.slots ⟨jz, jz, jz, trivial⟩⟩
  obtain rfl : k = l.length := by omega
  have hall := rising_yes fun i hi => hok i hi hi
  refine wz 1 ?_
  exact rz rfl (Less.eq (by rw [hall]))
theorem rscene_pure (p : Ply) (x : Scn) (h1 : x.moved.length ≤ 1000000) (h2 : x.rest.length ≤ 1000000) (h3 : x.taken.length ≤ 1000000) (hh : p.hts.length ≤ 1000000) (hf : p.figs.length ≤ 1000000) : APure Tryz.prog 78 [plA p, .agg (scC x)] (B (scOK p x)) := by
  refine ap Tryz.func78 (fun e0 he0 => ?_)
  refine wz 8 ?_
  refine kz az (rrising_pure x.moved p.figs.length h1 hf) ?_
  refine wz 2 ?_
  refine sz 13 (fun g1_7 g1_7' => ?_) (fun g1_7 g1_7' => ?_)
  ·refine wz 31 ?_
   exact rz rfl (Less.eq (congrArg B (by unfold scOK; simp [*])))
  refine wz 5 ?_
  refine ky az (rrising_pure x.rest p.figs.length h2 hf) ?_
  refine wz 3 ?_
  refine sz 22 (fun g1_16 g1_16' => ?_) (fun g1_16 g1_16' => ?_)
  ·refine wz 22 ?_
   exact rz rfl (Less.eq (congrArg B (by unfold scOK; simp [*])))
  refine wz 5 ?_
  refine ky az (rrising_pure x.taken p.hts.length h3 hh) ?_
  refine wz 3 ?_
  refine sz 31 (fun g1_25 g1_25' => ?_) (fun g1_25 g1_25' => ?_)
  ·refine wz 13 ?_
   exact rz rfl (Less.eq (congrArg B (by unfold scOK; simp [*])))
  refine wz 6 ?_
  refine sz 37 (fun g1_31 g1_31' => ?_) (fun g1_31 g1_31' => ?_)
  ·have k31 : ¬ x.rest.length ≤ 4 := by omega
   refine wz 7 ?_
   exact rz rfl (Less.eq (congrArg B (by unfold scOK; simp [*])))
  have k31 : x.rest.length ≤ 4 := by omega
  refine wz 2 ?_
  refine ky az (rin_pure _ _ _) ?_
  refine wz 2 ?_
  refine iz (fun c_42 c_42' => ?_) (fun c_42 c_42' => ?_)
  ·refine wz 1 ?_
   exact rz rfl (Less.eq (congrArg B (by unfold scOK; simp [*])))
  refine wz 1 ?_
  refine aw_loopk (ι := { k : Nat // k ≤ x.rest.length ∧ ∀ i, (hi : i < x.rest.length) → i < k → (!decide (x.rest[i] ∈ x.moved)) = true }) [3] (fun i => [(5, I i.1)]) (fun H i => H) (fun i => x.rest.length - i.1) (⟨0, Nat.zero_le _, by omega⟩) ⟨jz, jz, trivial⟩ rfl ?_
  rintro ⟨k, hk, hok⟩
  refine nz ?_
  refine wz 5 ?_
  refine iz (fun c_47 c_47' => ?_) (fun c_47 c_47' => ?_)
  ·have hkL : k < x.rest.length := by omega
   refine wz 0 ?_
   refine aw_draw 8 mo (by kernel_rfl) ?_
   refine dz 7 ?_
   refine dkz az (has_pure _ _ h1) ?_
   refine dr_end ?_
   refine wz 0 ?_
   refine iz (fun c_57 c_57' => ?_) (fun c_57 c_57' => ?_)
   ·have hbad : (x.rest.all fun n => !decide (n ∈ x.moved)) = false := all_bad hkL (by rw [decide_eq_true (of_decide_eq_true c_57)]; rfl)
    refine wz 1 ?_
    exact rz rfl (Less.eq (congrArg B (by unfold scOK; rw [all_sym, hbad]; simp)))
   refine wz 3 ?_
   exact ⟨⟨k + 1, by omega, fun i hi h => (by by_cases e : i = k; (subst e; rw [decide_eq_false (of_decide_eq_false c_57)]; rfl); exact hok i hi (by omega))⟩, by simp only; omega, Sub.slots ⟨jz, jz, trivial⟩⟩
  obtain rfl : k = x.rest.length := by omega
  have hall : (x.rest.all fun n => !decide (n ∈ x.moved)) = true := all_of fun j hj => hok j hj hj
  refine wz 1 ?_
  exact rz rfl (Less.eq (congrArg B (by unfold scOK; rw [all_sym, hall]; simp_all)))
theorem rplay_pure (p : Ply) (hh : p.hts.length ≤ 1000000) (hf : p.figs.length ≤ 1000000) (hs : p.scs.length ≤ 1000000) (hx : ∀ x ∈ p.scs, x.moved.length ≤ 1000000 ∧ x.rest.length ≤ 1000000 ∧ x.taken.length ≤ 1000000) : APure Tryz.prog 22 [plA p] (B (plOK p)) := by
  refine ap Tryz.func22 (fun e0 he0 => ?_)
  refine wz 5 ?_
  refine kz az (rin_pure _ _ _) ?_
  refine wz 2 ?_
  refine sz 12 (fun g1_5 g1_5' => ?_) (fun g1_5 g1_5' => ?_)
  ·refine wz 24 ?_
   exact rz rfl (Less.eq (by unfold plOK; simp_all))
  refine wz 3 ?_
  refine ky az (rin_pure _ _ _) ?_
  refine wz 3 ?_
  refine sz 19 (fun g1_12 g1_12' => ?_) (fun g1_12 g1_12' => ?_)
  ·refine wz 17 ?_
   exact rz rfl (Less.eq (by unfold plOK; simp_all))
  refine wz 3 ?_
  refine ky az (rin_pure _ _ _) ?_
  refine wz 3 ?_
  refine sz 26 (fun g1_19 g1_19' => ?_) (fun g1_19 g1_19' => ?_)
  ·refine wz 10 ?_
   exact rz rfl (Less.eq (by unfold plOK; simp_all))
  refine wz 5 ?_
  refine ky az (rin_pure _ _ _) ?_
  refine wz 2 ?_
  refine iz (fun c_34 c_34' => ?_) (fun c_34 c_34' => ?_)
  ·refine wz 1 ?_
   exact rz rfl (Less.eq (by unfold plOK; simp_all))
  refine wz 1 ?_
  refine aw_loopk (ι := { k : Nat // k ≤ p.hts.length ∧ ∀ i, (hi : i < p.hts.length) → i < k → inn p.hts[i] 1 9 = true }) [1] (fun i => [(3, I i.1)]) (fun H i => H) (fun i => p.hts.length - i.1) (⟨0, Nat.zero_le _, by omega⟩) ⟨jz, jz, trivial⟩ rfl ?_
  rintro ⟨k, hk, hok⟩
  refine nz ?_
  refine wz 5 ?_
  refine iz (fun c_39 c_39' => ?_) (fun c_39 c_39' => ?_)
  ·have hkl : k < p.hts.length := by omega
   refine wz 5 ?_
   refine kz az (rin_pure _ _ _) ?_
   refine wz 1 ?_
   refine iz (fun c_48 c_48' => ?_) (fun c_48 c_48' => ?_)
   ·have hbad : (p.hts.all fun n => inn n 1 9) = false := all_bad hkl (by simpa using c_48)
    refine wz 1 ?_
    exact rz rfl (Less.eq (by unfold plOK; rw [hbad]; simp))
   refine wz 3 ?_
   exact ⟨⟨k + 1, by omega, fun i hi h => (by by_cases e : i = k; (subst e; simpa using c_48); exact hok i hi (by omega))⟩, by simp only; omega, Sub.slots ⟨jz, jz, trivial⟩⟩
  obtain rfl : k = p.hts.length := by omega
  have hall1 : (p.hts.all fun n => inn n 1 9) = true := all_of fun j hj => hok j hj hj
  refine wz 1 ?_
  refine aw_loopk (ι := { k : Nat // k ≤ p.figs.length ∧ ∀ i, (hi : i < p.figs.length) → i < k → fgOK p.figs[i] = true }) [1] (fun i => [(4, I i.1)]) (fun H i => H) (fun i => p.figs.length - i.1) (⟨0, Nat.zero_le _, by omega⟩) ⟨jz, jz, trivial⟩ rfl ?_
  rintro ⟨k, hk2, hok2⟩
  refine nz ?_
  refine wz 5 ?_
  refine iz (fun c_53 c_53' => ?_) (fun c_53 c_53' => ?_)
  ·have hfl : k < p.figs.length := by omega
   have hfe : fgOK p.figs[k] = ((!decide (p.figs[k].side < 1) && !decide (p.figs[k].side > 3)) && inn p.figs[k].rank 1 9 && inn p.figs[k].hands 1 2) := by unfold fgOK; rw [show inn p.figs[k].side 1 3 = (!(decide (p.figs[k].side < 1)) && !(decide (p.figs[k].side > 3))) by unfold inn; rw [Bool.eq_iff_iff]; simp]
   refine wz 11 ?_
   refine sz 64 (fun g12_3 g12_3' => ?_) (fun g12_3 g12_3' => ?_)
   ·have hbad : p.figs.all fgOK = false := all_bad hfl (by rw [hfe]; simp [*])
    refine wz 18 ?_
    exact rz rfl (Less.eq (by unfold plOK; rw [hbad]; simp))
   refine wz 5 ?_
   refine sz 69 (fun g12_8 g12_8' => ?_) (fun g12_8 g12_8' => ?_)
   ·have hbad : p.figs.all fgOK = false := all_bad hfl (by rw [hfe]; simp [*])
    refine wz 13 ?_
    exact rz rfl (Less.eq (by unfold plOK; rw [hbad]; simp))
   refine wz 2 ?_
   refine ky az (rin_pure _ _ _) ?_
   refine wz 3 ?_
   refine sz 75 (fun g12_14 g12_14' => ?_) (fun g12_14 g12_14' => ?_)
   ·have hbad : p.figs.all fgOK = false := all_bad hfl (by rw [hfe]; simp [*])
    refine wz 7 ?_
    exact rz rfl (Less.eq (by unfold plOK; rw [hbad]; simp))
   refine wz 2 ?_
   refine ky az (rin_pure _ _ _) ?_
   refine wz 2 ?_
   refine iz (fun c_80 c_80' => ?_) (fun c_80 c_80' => ?_)
   ·have hbad : p.figs.all fgOK = false := all_bad hfl (by rw [hfe]; simp [*])
    refine wz 1 ?_
    exact rz rfl (Less.eq (by unfold plOK; rw [hbad]; simp))
   have hfg : fgOK p.figs[k] = true := by rw [hfe]; simp [*]
   refine wz 3 ?_
   exact ⟨⟨k + 1, by omega, fun i hi h => (by by_cases e : i = k; (subst e; exact hfg); exact hok2 i hi (by omega))⟩, by simp only; omega, sb 1 ⟨jz, jz, trivial⟩⟩
  obtain rfl : k = p.figs.length := by omega
  have hall2 : p.figs.all fgOK = true := all_of fun j hj => hok2 j hj hj
  refine wz 1 ?_
  refine aw_loopk (ι := { k : Nat // k ≤ p.scs.length ∧ ∀ i, (hi : i < p.scs.length) → i < k → scOK p p.scs[i] = true }) [1] (fun i => [(6, I i.1)]) (fun H i => H) (fun i => p.scs.length - i.1) (⟨0, Nat.zero_le _, by omega⟩) ⟨jz, jz, trivial⟩ rfl ?_
  rintro ⟨k, hk3, hok3⟩
  refine nz ?_
  refine wz 5 ?_
  refine iz (fun c_85 c_85' => ?_) (fun c_85 c_85' => ?_)
  ·have hsl : k < p.scs.length := by omega
   have hxk := hx _ (List.getElem_mem hsl)
   refine wz 0 ?_
   refine aw_draw 8 mo (by kernel_rfl) ?_
   refine dz 6 ?_
   refine dkz az (rscene_pure p _ hxk.1 hxk.2.1 hxk.2.2 hh hf) ?_
   refine dz 1 ?_
   refine wz 0 ?_
   refine iz (fun c_95 c_95' => ?_) (fun c_95 c_95' => ?_)
   ·have hbad : p.scs.all (scOK p) = false := all_bad hsl (by simpa using c_95)
    refine wz 1 ?_
    exact rz rfl (Less.eq (by unfold plOK; rw [hbad]; simp))
   refine wz 3 ?_
   exact ⟨⟨k + 1, by omega, fun i hi h => (by by_cases e : i = k; (subst e; simpa using c_95); exact hok3 i hi (by omega))⟩, by simp only; omega, Sub.slots ⟨jz, jz, trivial⟩⟩
  obtain rfl : k = p.scs.length := by omega
  have hall3 : p.scs.all (scOK p) = true := all_of fun j hj => hok3 j hj hj
  refine wz 1 ?_
  exact rz rfl (Less.eq (by unfold plOK; rw [hall1, hall2, hall3]; simp_all))
theorem rplace_pure (p : Ply) (n : Int) (hh : p.hts.length ≤ 1000000) : APure Tryz.prog 118 [plA p, I n] (B (plIn p n)) := by
  refine ap Tryz.func118 (fun e0 he0 => ?_)
  refine wz 7 ?_
  refine kz az (rin_pure _ _ _) ?_
  refine wz 1 ?_
  exact rz rfl jz
theorem rlist_pure (p : Ply) {k : Nat} (hk : k < p.scs.length) (hh : p.hts.length ≤ 1000000) (hs : p.scs.length ≤ 1000000) (l : List Int) (hl : l.length ≤ 1000000) (hr : (sc p k).rest.length ≤ 1000000) : APure Tryz.prog 57 [plA p, I k, ints l] (B (plsOK p (sc p k) l)) := by
  refine ap Tryz.func57 (fun e0 he0 => ?_)
  refine aw_seq ?_
  have hse := sc_at hk
  rw [hse] at hr
  refine wz 3 ?_
  refine aw_loopk (ι := { m : Nat // m ≤ l.length ∧ ∀ i, (hi : i < l.length) → i < m → plIn p l[i] = true }) [1, 2, 3] (fun i => [(7, I i.1)]) (fun H i => H) (fun i => l.length - i.1) (⟨0, Nat.zero_le _, by omega⟩) ⟨jz, jz, jz, jz, trivial⟩ rfl ?_
  rintro ⟨m, hm, hok⟩
  refine nz ?_
  refine wz 4 ?_
  refine iz (fun c_11 c_11' => ?_) (fun c_11 c_11' => ?_)
  ·have hml : m < l.length := by omega
   refine wz 0 ?_
   refine aw_draw 7 mo (by kernel_rfl) ?_
   refine dz 5 ?_
   refine dkz az (rplace_pure p _ hh) ?_
   refine dz 1 ?_
   refine wz 0 ?_
   refine iz (fun c_20 c_20' => ?_) (fun c_20 c_20' => ?_)
   ·have hbad : l.all (plIn p) = false := all_bad hml (by simpa using c_20)
    refine wz 1 ?_
    exact rz rfl (Less.eq (congrArg B (by unfold plsOK; rw [pls_any, hbad]; simp)))
   refine wz 3 ?_
   exact ⟨⟨m + 1, by omega, fun i hi h => (by by_cases e : i = m; (subst e; simpa using c_20); exact hok i hi (by omega))⟩, by simp only; omega, Sub.slots ⟨jz, jz, jz, jz, trivial⟩⟩
  obtain rfl : m = l.length := by omega
  have hall : l.all (plIn p) = true := all_of fun j hj => hok j hj hj
  refine wz 11 ?_
  exact rz rfl (Less.eq (congrArg B (by unfold plsOK; rw [pls_any, hall, hse]; simp; omega)))
theorem short_pure (p : Ply) : APure Tryz.prog 19 [plA p] (B (shB p)) := by
  refine ap Tryz.func19 (fun e0 he0 => ?_)
  refine wz 3 ?_
  refine aw_loopk (ι := { k : Nat // k ≤ p.scs.length ∧ k ≤ 8 ∧ ∀ i, (hi : i < p.scs.length) → i < k → shX p.scs[i] = true }) [1] (fun i => [(3, I i.1)]) (fun H i => H) (fun i => p.scs.length - i.1) (⟨0, Nat.zero_le _, by omega, by omega⟩) ⟨jz, jz, trivial⟩ rfl ?_
  rintro ⟨k, hk, hk8, hok⟩
  refine nz ?_
  refine wz 6 ?_
  refine sz 10 (fun g2_5 g2_5' => ?_) (fun g2_5 g2_5' => ?_)
  ·have hkl : k < p.scs.length := by omega
   refine wz 3 ?_
   refine iz (fun c_13 c_13' => ?_) (fun c_13 c_13' => ?_)
   ·have hk8b : k < 8 := by have := of_decide_eq_true c_13; omega
    refine wz 12 ?_
    refine sz 25 (fun g5_4 g5_4' => ?_) (fun g5_4 g5_4' => ?_)
    ·have hbad := shB_row hkl hk8b (by unfold shX; simp; omega)
     refine wz 13 ?_
     exact rz rfl (Less.eq (by rw [hbad]))
    refine wz 6 ?_
    refine sz 31 (fun g5_10 g5_10' => ?_) (fun g5_10 g5_10' => ?_)
    ·have hbad := shB_row hkl hk8b (by unfold shX; simp; omega)
     refine wz 7 ?_
     exact rz rfl (Less.eq (by rw [hbad]))
    refine wz 5 ?_
    refine iz (fun c_36 c_36' => ?_) (fun c_36 c_36' => ?_)
    ·have h6 := of_decide_eq_true c_36
     have hbad := shB_row hkl hk8b (by unfold shX; simp; omega)
     refine wz 1 ?_
     exact rz rfl (Less.eq (by rw [hbad]))
    have h6 := of_decide_eq_false c_36
    have hsx : shX p.scs[k] = true := by unfold shX; simp; omega
    refine wz 3 ?_
    exact ⟨⟨k + 1, by omega, by omega, fun i hi h => (by by_cases e : i = k; (subst e; exact hsx); exact hok i hi (by omega))⟩, by simp only; omega, sb 1 ⟨jz, jz, trivial⟩⟩
   refine wz 5 ?_
   refine sz 41 (fun g7_4 g7_4' => ?_) (fun g7_4 g7_4' => ?_)
   ·refine wz 6 ?_
    refine sz 47 (fun g7_10 g7_10' => ?_) (fun g7_10 g7_10' => ?_)
    ·refine wz 6 ?_
     exact rz rfl (Less.eq (congrArg B (by have h9 := of_decide_eq_false c_13; rw [shB_fin (fun i hi h8 => hok i hi (by omega)), Bool.eq_iff_iff]; simp; omega)))
    refine wz 6 ?_
    exact rz rfl (Less.eq (congrArg B (by have h9 := of_decide_eq_false c_13; rw [shB_fin (fun i hi h8 => hok i hi (by omega)), Bool.eq_iff_iff]; simp; omega)))
   refine wz 12 ?_
   exact rz rfl (Less.eq (congrArg B (by have h9 := of_decide_eq_false c_13; rw [shB_fin (fun i hi h8 => hok i hi (by omega)), Bool.eq_iff_iff]; simp; omega)))
  obtain rfl : k = p.scs.length := by omega
  refine wz 9 ?_
  refine sz 41 (fun g7_4 g7_4' => ?_) (fun g7_4 g7_4' => ?_)
  ·refine wz 6 ?_
   refine sz 47 (fun g7_10 g7_10' => ?_) (fun g7_10 g7_10' => ?_)
   ·refine wz 6 ?_
    exact rz rfl (Less.eq (congrArg B (by rw [shB_fin (fun i hi _ => hok i hi hi), Bool.eq_iff_iff]; simp; omega)))
   refine wz 6 ?_
   exact rz rfl (Less.eq (congrArg B (by rw [shB_fin (fun i hi _ => hok i hi hi), Bool.eq_iff_iff]; simp; omega)))
  refine wz 12 ?_
  exact rz rfl (Less.eq (congrArg B (by rw [shB_fin (fun i hi _ => hok i hi hi), Bool.eq_iff_iff]; simp; omega)))
theorem slim_pure (L : List (List Int)) : APure Tryz.prog 60 [hds L] (B (slB L)) := by
  refine ap Tryz.func60 (fun e0 he0 => ?_)
  refine wz 2 ?_
  refine aw_loopk (ι := { k : Nat // k ≤ L.length ∧ k ≤ 8 ∧ ∀ i, (hi : i < L.length) → i < k → L[i].length ≤ 10 }) [0] (fun i => [(3, I i.1)]) (fun H i => H) (fun i => L.length - i.1) (⟨0, Nat.zero_le _, by omega, by omega⟩) ⟨jz, jz, trivial⟩ rfl ?_
  rintro ⟨k, hk, hk8, hok⟩
  refine nz ?_
  refine wz 5 ?_
  refine sz 8 (fun g2_4 g2_4' => ?_) (fun g2_4 g2_4' => ?_)
  ·have hkl : k < L.length := by omega
   refine wz 3 ?_
   refine iz (fun c_11 c_11' => ?_) (fun c_11 c_11' => ?_)
   ·have hk8b : k < 8 := by have := of_decide_eq_true c_11; omega
    refine wz 6 ?_
    refine iz (fun c_19 c_19' => ?_) (fun c_19 c_19' => ?_)
    ·have hbad := slB_row hkl hk8b (by have h6 := of_decide_eq_true c_19; omega)
     refine wz 1 ?_
     exact rz rfl (Less.eq (by rw [hbad]))
    refine wz 3 ?_
    exact ⟨⟨k + 1, by omega, by omega, fun i hi h => (by by_cases e : i = k; (subst e; have h6 := of_decide_eq_false c_19; omega); exact hok i hi (by omega))⟩, by simp only; omega, Sub.slots ⟨jz, jz, trivial⟩⟩
   refine wz 4 ?_
   exact rz rfl (Less.eq (congrArg B (by have h9 := of_decide_eq_false c_11; rw [slB_fin (fun i hi h8 => hok i hi (by omega)), Bool.eq_iff_iff]; simp; omega)))
  obtain rfl : k = L.length := by omega
  refine wz 8 ?_
  exact rz rfl (Less.eq (congrArg B (by rw [slB_fin (fun i hi _ => hok i hi hi), Bool.eq_iff_iff]; simp; omega)))
end Go.Proofs.YtfmpabgblbbcdaaGreatDoor
namespace Go.Proofs.YtfmpabgblbbcdaaGreatDoor
open Go Go.Ab Ni St
open Hd hiding sz
instance en20 : EnT Tryz.prog 20 := ⟨Ent.of Tryz.func20 (by kernel_rfl) rfl⟩
section
variable [Tabs]
section seq
variable {c : Ctx} {ops : Array Oper} {Q : AExit → St → Prop} {rest : List Oper} {s : St} {i : Nat}
variable {d : Option Tmp} {t : TypeId} {p : String} {af : Array Edge}
end seq
section ev
variable {P : Program} {r : Option Nat} {H : List AObj} {ρ : Operand → AV}
variable {d : Option Tmp} {t : TypeId} {p : String} {af : Array Edge} {g : Option (Nat × Bool)}
end ev
end
theorem short_t {p : Ply} (h : shB p = true) : APure Tryz.prog 19 [plA p] (B true) := by have q := short_pure p; rw [h] at q; exact q
theorem short_f {p : Ply} (h : shB p = false) : APure Tryz.prog 19 [plA p] (B false) := by have q := short_pure p; rw [h] at q; exact q
theorem pl_t {p : Ply} (hs : shB p = true) (h : plOK p = true) : APure Tryz.prog 22 [plA p] (B true) := by have q := rplay_pure p (shB_len hs).1 (shB_len hs).2.1 (shB_len hs).2.2.1 (shB_len hs).2.2.2; rw [h] at q; exact q
theorem pl_f {p : Ply} (hs : shB p = true) (h : plOK p = false) : APure Tryz.prog 22 [plA p] (B false) := by have q := rplay_pure p (shB_len hs).1 (shB_len hs).2.1 (shB_len hs).2.2.1 (shB_len hs).2.2.2; rw [h] at q; exact q
end Go.Proofs.YtfmpabgblbbcdaaGreatDoor
namespace Go.Proofs.YtfmpabgblbbcdaaGreatDoor
open Go Go.Ab Ni St
open Hd hiding sz
instance en23 : EnT Tryz.prog 23 := ⟨Ent.of Tryz.func23 (by kernel_rfl) rfl⟩
instance en46 : EnT Tryz.prog 46 := ⟨Ent.of Tryz.func46 (by kernel_rfl) rfl⟩
instance en68 : EnT Tryz.prog 68 := ⟨Ent.of Tryz.func68 (by kernel_rfl) rfl⟩
instance en69 : EnT Tryz.prog 69 := ⟨Ent.of Tryz.func69 (by kernel_rfl) rfl⟩
instance en70 : EnT Tryz.prog 70 := ⟨Ent.of Tryz.func70 (by kernel_rfl) rfl⟩
instance en79 : EnT Tryz.prog 79 := ⟨Ent.of Tryz.func79 (by kernel_rfl) rfl⟩
instance en80 : EnT Tryz.prog 80 := ⟨Ent.of Tryz.func80 (by kernel_rfl) rfl⟩
instance en86 : EnT Tryz.prog 86 := ⟨Ent.of Tryz.func86 (by kernel_rfl) rfl⟩
theorem handsK_bd {p : Ply} (B : PlB p) {x : Scn} (X : ScB p x) : ∀ (k : Nat), k ≤ x.moved.length → 0 ≤ handsK p x k ∧ handsK p x k ≤ 1 + 2 * k
  | 0, _ => by have := X.kn; rw [handsK_0]; omega
  | k + 1, h => by
    have ih := handsK_bd B X k (by omega)
    have hm := mv_at X (show k < x.moved.length by omega)
    have := (fg_B B hm.1 hm.2).2.2
    rw [handsK_succ (show k < x.moved.length by omega)]; omega
def badI (p : Ply) (x : Scn) (l : List Int) (i : Nat) : Prop := l.getD i 0 ∈ l.take i ∨ l.getD i 0 ∈ x.taken ∨ ((rf p x i).side = 1 ∧ p.left ≤ l.getD i 0) ∨ ((rf p x i).side = 2 ∧ l.getD i 0 < p.left)
theorem stands_no {p : Ply} {x : Scn} {l : List Int} {i : Nat} (hi : i < l.length) (h : badI p x l i) : stands p x l = false := by
  unfold stands; rw [decide_eq_false_iff_not]; exact fun q => q i hi h
theorem stands_yes {p : Ply} {x : Scn} {l : List Int} (h : ∀ i, i < l.length → ¬ badI p x l i) : stands p x l = true := by unfold stands; exact decide_eq_true h
theorem ranks_no1 {p : Ply} {x : Scn} {l : List Int} {i : Nat} (hi : i < l.length) (h : (rf p x i).rank < ht p (l.getD i 0)) : ranks p x l = false := by
  unfold ranks; rw [decide_eq_false_iff_not]; intro q; have := (q i hi).1; omega
theorem ranks_no2 {p : Ply} {x : Scn} {l : List Int} {i k : Nat} (hi : i < l.length) (hk : k < l.length) (h : clash p x l i k = true) : ranks p x l = false := by
  unfold ranks; rw [decide_eq_false_iff_not]; intro q; have := (q i hi).2 k hk; rw [h] at this; cases this
theorem ranks_yes {p : Ply} {x : Scn} {l : List Int} (h : ∀ i, i < l.length → ht p (l.getD i 0) ≤ (rf p x i).rank ∧ ∀ k, k < l.length → clash p x l i k = false) : ranks p x l = true := by unfold ranks; exact decide_eq_true h
abbrev lst (p : Ply) (k : Nat) (now : List Int) : List (List Int) := dfs inj p.hts.length k now
def lstK (p : Ply) (k : Nat) (now : List Int) (i : Nat) : List (List Int) := (every i).flatMap fun a => if inj (now ++ [a]) = true then lst p k (now ++ [a]) else []
theorem inj_snoc (now : List Int) (a : Int) : inj (now ++ [a]) = !decide (a ∈ now) := by unfold inj; simp
theorem lstK_yes {p : Ply} {k : Nat} {now : List Int} {i : Nat} (h : ¬ (i : Int) ∈ now) : lstK p k now (i + 1) = lstK p k now i ++ lst p k (now ++ [(i : Int)]) := by
  unfold lstK; rw [show every (i + 1) = every i ++ [(i : Int)] by simp [every, List.range_succ], List.flatMap_append]; simp [inj_snoc, h]
theorem lstK_no {p : Ply} {k : Nat} {now : List Int} {i : Nat} (h : (i : Int) ∈ now) : lstK p k now (i + 1) = lstK p k now i := by
  unfold lstK; rw [show every (i + 1) = every i ++ [(i : Int)] by simp [every, List.range_succ], List.flatMap_append]; simp [inj_snoc, h]
theorem lstK_all (p : Ply) (k : Nat) (now : List Int) : lst p (k + 1) now = lstK p k now p.hts.length := rfl
theorem lst_len {p : Ply} (B : PlB p) {k : Nat} (h : k ≤ 4) (now : List Int) : (lst p k now).length ≤ 1296 := by
  have h1 := dfs_len (ok := inj) (n := p.hts.length) k now
  have h2 : p.hts.length ^ k ≤ 6 ^ k := Nat.pow_le_pow_left B.nh.2 _
  have h3 : 6 ^ k ≤ 6 ^ 4 := Nat.pow_le_pow_right (by decide) h
  unfold lst; omega
theorem flat_len {α β : Type} (f : α → List β) (b : Nat) (h : ∀ a, (f a).length ≤ b) : ∀ l : List α, (l.flatMap f).length ≤ b * l.length
  | [] => by simp
  | a :: l => by have h1 := flat_len f b h l; have h2 := h a; rw [List.flatMap_cons, List.length_append, List.length_cons, Nat.mul_succ]; omega
theorem lstK_len {p : Ply} (B : PlB p) {k : Nat} (h : k ≤ 4) (now : List Int) (i : Nat) : (lstK p k now i).length ≤ 1296 * i := by
  have h1 := flat_len (fun a => if inj (now ++ [a]) = true then lst p k (now ++ [a]) else []) 1296 (fun a => by show (if inj (now ++ [a]) = true then lst p k (now ++ [a]) else []).length ≤ 1296; split; exact lst_len B h _; simp) (every i)
  rw [show (every i).length = i by simp [every]] at h1; exact h1
theorem lst_mem {p : Ply} {k : Nat} {now l : List Int} (hn : ∀ a ∈ now, 0 ≤ a ∧ a < p.hts.length) (h : l ∈ lst p k now) : l.length = now.length + k ∧ ∀ a ∈ l, 0 ≤ a ∧ a < p.hts.length := by
  obtain ⟨h1, h2, h3, _⟩ := mem_dfs.1 h
  refine ⟨h1, fun a ha => ?_⟩
  rw [← List.take_append_drop now.length l, h2] at ha
  rcases List.mem_append.1 ha with ha | ha
  · exact hn a ha
  · exact h3 a ha
theorem arr_lst (b : Bool) (p : Ply) (x : Scn) : arr b p x = (lst p x.rest.length []).filter (suits b p x) := arr_filter b p x
theorem fil_succ {α : Type} {q : α → Bool} {l : List α} {i : Nat} (h : i < l.length) : (l.take (i + 1)).filter q = (l.take i).filter q ++ (if q l[i] = true then [l[i]] else []) := by
  rw [List.take_succ_eq_append_getElem h, List.filter_append]
  congr 1
  by_cases h1 : q l[i] = true
  · rw [if_pos h1, List.filter_cons_of_pos h1]; rfl
  · rw [if_neg h1, List.filter_cons_of_neg h1]; rfl
theorem suits_bnd {p : Ply} {x : Scn} {L : List (List Int)} (e : L = lst p x.rest.length []) {i : Nat} (h : i < L.length) : L[i].length = x.rest.length ∧ ∀ a ∈ L[i], 0 ≤ a ∧ a < p.hts.length := by
  subst e
  have := lst_mem (now := []) (fun a ha => by cases ha) (List.getElem_mem h)
  simpa using this
theorem sc_ok {p : Ply} (B : PlB p) {k : Nat} (hk : k < p.scs.length) : p.scs[k] = sc p k ∧ ScB p (sc p k) := ⟨(sc_at hk).symm, sc_B B hk⟩
def failI (p : Ply) : Int := match failsAt p with | some n => n | none => -1
theorem rhands_pure {p : Ply} (gP : PlB p) {k : Nat} (hk : k < p.scs.length) {x : Scn} (hxe : p.scs[k] = x) (gX : ScB p x) : APure Tryz.prog 68 [plA p, I k] (I (hands p x)) := by
  refine ap Tryz.func68 (fun e0 he0 => ?_)
  refine vz 2 ?_
  refine sq_nil ?_
  refine aw_seq ?_
  have hkn := gX.kn
  have hnf := gP.nf
  have hml := rising_len gX.mv
  refine wz 4 ?_
  refine sq_ev rfl (ev_less (ev_load_agg_i jz ty41.h (by simp)) (Less.eq (b := .agg (scC x)) (by rw [hxe]; rfl))) ?_
  refine wz 8 ?_
  refine aw_loopk (ι := { m : Nat // m ≤ x.moved.length }) [2, 5] (fun i => [(6, I (handsK p x i.1)), (7, I i.1)]) (fun H i => H) (fun i => x.moved.length - i.1) (⟨0, Nat.zero_le _⟩) ⟨Less.eq (by rw [handsK_0] <;> rfl), jz, jz, jz, trivial⟩ rfl ?_
  rintro ⟨m, hm⟩
  refine nz ?_
  have hbd := handsK_bd gP gX m hm
  refine wz 5 ?_
  refine iz (fun c_21 c_21' => ?_) (fun c_21 c_21' => ?_)
  ·have hml2 : m < x.moved.length := by omega
   have hmk := mv_at gX hml2
   have hfb := fg_B gP hmk.1 hmk.2
   rw [fg_at hmk.1 hmk.2] at hfb
   have eS : handsK p x m + (p.figs[(x.moved[m]).toNat]).hands = handsK p x (m + 1) := by rw [handsK_succ hml2, fg_at hmk.1 hmk.2]
   refine wz 0 ?_
   refine aw_draw 12 mo (by kernel_rfl) ?_
   refine dz 8 ?_
   refine dr_ev rfl (ev_index_map (k := (x.moved[m]).toNat) (xs := p.figs) sl23.h jz jz (by have := mv_at gX hml2; omega) (by have := mv_at gX hml2; omega)) ?_
   refine dz 3 ?_
   refine wz 4 ?_
   exact ⟨⟨m + 1, by omega⟩, by simp only; omega, Sub.slots ⟨(by exact less_int eS), jz, jz, jz, trivial⟩⟩
  obtain rfl : m = x.moved.length := by omega
  refine wz 2 ?_
  exact rz rfl (Less.eq (by rw [handsK_all]))
theorem rstands_pure {p : Ply} (gP : PlB p) {k : Nat} (hk : k < p.scs.length) {x : Scn} (hxe : p.scs[k] = x) (gX : ScB p x) {l : List Int} (hr : l.length ≤ x.rest.length) : APure Tryz.prog 80 [plA p, I k, ints l] (B (stands p x l)) := by
  refine ap Tryz.func80 (fun e0 he0 => ?_)
  refine vz 2 ?_
  refine sq_nil ?_
  refine aw_seq ?_
  have hr4 := gX.r4
  have htl := rising_len gX.tk
  have hnh := gP.nh
  refine wz 4 ?_
  refine sq_ev rfl (ev_less (ev_load_agg_i jz ty41.h (by simp)) (Less.eq (b := .agg (scC x)) (by rw [hxe]; rfl))) ?_
  refine wz 3 ?_
  refine aw_loopk (ι := { i : Nat // i ≤ l.length ∧ ∀ j, j < i → ¬ badI p x l j }) [2, 3, 7] (fun g => [(8, I g.1)]) (fun H g => H) (fun g => l.length - g.1) (⟨0, Nat.zero_le _, by omega⟩) ⟨jz, jz, jz, jz, trivial⟩ rfl ?_
  rintro ⟨i, hi, hok⟩
  refine nz ?_
  refine wz 4 ?_
  refine iz (fun c_18 c_18' => ?_) (fun c_18 c_18' => ?_)
  ·have hil : i < l.length := by omega
   have hri : i < x.rest.length := by omega
   have hfi := rs_at gX hri
   have hrf := rf_at gX hri
   have hg := getD_at (d := 0) hil
   refine wz 0 ?_
   refine aw_draw 11 mo (by kernel_rfl) ?_
   refine dz 7 ?_
   refine dr_ev rfl (ev_index_map (k := (x.rest[i]).toNat) (xs := p.figs) sl23.h jz jz (by have := hfi; omega) (by have := hfi; omega)) ?_
   refine dz 3 ?_
   refine wz 0 ?_
   refine aw_draw 43 mo (by kernel_rfl) ?_
   refine dz 2 ?_
   refine dr_ev rfl (ev_less (ev_slice (lo := 0) (hi := i) sl22.h jz rfl (less_int (by omega)) (by omega) (by simp; omega)) (Less.eq (b := ints (l.take i)) (by rw [List.drop_zero, ← List.map_take]))) ?_
   refine dz 4 ?_
   refine dkz az (has_pure _ _ (by rw [List.length_take]; omega)) ?_
   refine dz 1 ?_
   refine dsz 39 (fun g6_8 g6_8' => ?_) (fun g6_8 g6_8' => ?_)
   ·have hno := stands_no (p := p) (x := x) hil (by unfold badI; rw [hg, hrf]; exact .inl (of_decide_eq_true g6_8))
    refine dz 34 ?_
    refine wz 2 ?_
    exact rz rfl (Less.eq (by rw [hno]))
   refine dz 6 ?_
   refine dky az (has_pure _ _ (by omega)) ?_
   refine dz 2 ?_
   refine dsz 48 (fun g6_17 g6_17' => ?_) (fun g6_17 g6_17' => ?_)
   ·have hno := stands_no (p := p) (x := x) hil (by unfold badI; rw [hg, hrf]; exact .inr (.inl (of_decide_eq_true g6_17)))
    refine dz 25 ?_
    refine wz 2 ?_
    exact rz rfl (Less.eq (by rw [hno]))
   refine dz 3 ?_
   refine dsz 51 (fun g6_20 g6_20' => ?_) (fun g6_20 g6_20' => ?_)
   ·refine dz 10 ?_
    refine dsz 61 (fun g6_30 g6_30' => ?_) (fun g6_30 g6_30' => ?_)
    ·have hno := stands_no (p := p) (x := x) hil (by unfold badI; rw [hg, hrf]; exact .inr (.inr (.inl ⟨of_decide_eq_true g6_20, of_decide_eq_true g6_30⟩)))
     refine dz 12 ?_
     refine wz 2 ?_
     exact rz rfl (Less.eq (by rw [hno]))
    refine dz 3 ?_
    refine dsz 64 (fun g6_33 g6_33' => ?_) (fun g6_33 g6_33' => ?_)
    ·refine dz 9 ?_
     refine wz 0 ?_
     refine iz (fun c_73 c_73' => ?_) (fun c_73 c_73' => ?_)
     ·have hno := stands_no (p := p) (x := x) hil (by unfold badI; rw [hg, hrf]; exact .inr (.inr (.inr ⟨of_decide_eq_true g6_33, of_decide_eq_true c_73⟩)))
      refine wz 1 ?_
      exact rz rfl (Less.eq (by rw [hno]))
     have hnb : ¬ badI p x l i := by unfold badI; rw [hg, hrf]; simp_all
     refine wz 3 ?_
     exact ⟨⟨i + 1, by omega, fun j hj => (by rcases Nat.lt_or_ge j i with q | q; exact hok j q; (obtain rfl : j = i := by omega); exact hnb)⟩, by simp only; omega, Sub.slots ⟨jz, jz, jz, jz, trivial⟩⟩
    have hnb : ¬ badI p x l i := by unfold badI; rw [hg, hrf]; simp_all
    refine dz 9 ?_
    refine wz 4 ?_
    exact ⟨⟨i + 1, by omega, fun j hj => (by rcases Nat.lt_or_ge j i with q | q; exact hok j q; (obtain rfl : j = i := by omega); exact hnb)⟩, by simp only; omega, Sub.slots ⟨jz, jz, jz, jz, trivial⟩⟩
   refine dz 13 ?_
   refine dsz 64 (fun g6_33 g6_33' => ?_) (fun g6_33 g6_33' => ?_)
   ·refine dz 9 ?_
    refine wz 0 ?_
    refine iz (fun c_73 c_73' => ?_) (fun c_73 c_73' => ?_)
    ·have hno := stands_no (p := p) (x := x) hil (by unfold badI; rw [hg, hrf]; exact .inr (.inr (.inr ⟨of_decide_eq_true g6_33, of_decide_eq_true c_73⟩)))
     refine wz 1 ?_
     exact rz rfl (Less.eq (by rw [hno]))
    have hnb : ¬ badI p x l i := by unfold badI; rw [hg, hrf]; simp_all
    refine wz 3 ?_
    exact ⟨⟨i + 1, by omega, fun j hj => (by rcases Nat.lt_or_ge j i with q | q; exact hok j q; (obtain rfl : j = i := by omega); exact hnb)⟩, by simp only; omega, Sub.slots ⟨jz, jz, jz, jz, trivial⟩⟩
   have hnb : ¬ badI p x l i := by unfold badI; rw [hg, hrf]; simp_all
   refine dz 9 ?_
   refine wz 4 ?_
   exact ⟨⟨i + 1, by omega, fun j hj => (by rcases Nat.lt_or_ge j i with q | q; exact hok j q; (obtain rfl : j = i := by omega); exact hnb)⟩, by simp only; omega, Sub.slots ⟨jz, jz, jz, jz, trivial⟩⟩
  obtain rfl : i = l.length := by omega
  have hall := stands_yes (fun j hj => hok j hj)
  refine wz 1 ?_
  exact rz rfl (Less.eq (by rw [hall]))
theorem rrests_pure {p : Ply} (gP : PlB p) {k : Nat} (hk : k < p.scs.length) {x : Scn} (hxe : p.scs[k] = x) (gX : ScB p x) {l : List Int} (hl : l.length = x.rest.length) (hm : ∀ a ∈ l, 0 ≤ a ∧ a < p.hts.length) : APure Tryz.prog 70 [plA p, I k, ints l] (B (suits true p x l)) := by
  refine ap Tryz.func70 (fun e0 he0 => ?_)
  refine vz 2 ?_
  refine sq_nil ?_
  refine aw_seq ?_
  have hr4 := gX.r4
  have hnh := gP.nh
  have hnf := gP.nf
  have hss := suits_ranks gP gX hl
  refine wz 4 ?_
  refine sq_ev rfl (ev_less (ev_load_agg_i jz ty41.h (by simp)) (Less.eq (b := .agg (scC x)) (by rw [hxe]; rfl))) ?_
  refine wz 3 ?_
  refine aw_loopk (ι := { i : Nat // i ≤ l.length ∧ ∀ j, j < i → ht p (l.getD j 0) ≤ (rf p x j).rank ∧ ∀ u, u < l.length → clash p x l j u = false }) [1, 2, 3, 7] (fun g => [(8, I g.1)]) (fun H g => H) (fun g => l.length - g.1) (⟨0, Nat.zero_le _, by omega⟩) ⟨jz, jz, jz, jz, jz, trivial⟩ rfl ?_
  rintro ⟨i, hi, hok⟩
  refine nz ?_
  refine wz 4 ?_
  refine iz (fun c_19 c_19' => ?_) (fun c_19 c_19' => ?_)
  ·have hil : i < l.length := by omega
   have hri : i < x.rest.length := by omega
   have hfi := rs_at gX hri
   have hrf := rf_at gX hri
   have hg := getD_at (d := 0) hil
   have hmi := hm _ (List.getElem_mem hil)
   refine wz 0 ?_
   refine aw_draw 10 mo (by kernel_rfl) ?_
   refine dz 7 ?_
   refine dr_ev rfl (ev_index_map (k := (x.rest[i]).toNat) (xs := p.figs) sl23.h jz jz (by have := hfi; omega) (by have := hfi; omega)) ?_
   refine dz 1 ?_
   refine dr_alloc rfl z82.h ?_
   refine dr_end ?_
   refine wz 1 ?_
   refine aw_draw 11 mo (by kernel_rfl) ?_
   refine dz 6 ?_
   refine dr_ev rfl (ev_index_map (k := (l[i]).toNat) (xs := p.hts) sl22.h jz jz (by have := hmi; omega) (by have := hmi; omega)) ?_
   refine dz 4 ?_
   refine wz 0 ?_
   refine iz (fun c_41 c_41' => ?_) (fun c_41 c_41' => ?_)
   ·have hno : suits true p x l = false := by rw [hss, ranks_no1 hil (by rw [hg, hrf, ht_at hmi.1 hmi.2]; omega)]; rfl
    refine wz 1 ?_
    exact rz rfl (Less.eq (by rw [hno]))
   have hle : ht p (l.getD i 0) ≤ (rf p x i).rank := by rw [hg, hrf, ht_at hmi.1 hmi.2]; omega
   refine wz 1 ?_
   refine aw_loopk (ι := { u : Nat // u ≤ l.length ∧ ∀ v, v < u → clash p x l i v = false }) [1, 2, 3, 7, 8, 9] (fun y => [(10, I y.1)]) (fun H y => H) (fun y => l.length - y.1) (⟨0, Nat.zero_le _, by omega⟩) ⟨jz, jz, jz, jz, jz, jz, jz, trivial⟩ rfl ?_
   rintro ⟨u, hu, hok2⟩
   refine nz ?_
   refine wz 4 ?_
   refine iz (fun c_45 c_45' => ?_) (fun c_45 c_45' => ?_)
   ·have huL : u < l.length := by omega
    have huR : u < x.rest.length := by omega
    have hfu := rs_at gX huR
    have hmu := hm _ (List.getElem_mem huL)
    have hcl : clash p x l i u = ((lf p l[i] == lf p l[u]) && decide ((p.figs[(x.rest[i]).toNat]).rank < (p.figs[(x.rest[u]).toNat]).rank ∧ p.hts[(l[u]).toNat] < p.hts[(l[i]).toNat])) := by unfold clash; rw [getD_at hil, getD_at huL, rf_at gX hri, rf_at gX huR, ht_at hmi.1 hmi.2, ht_at hmu.1 hmu.2]
    refine wz 0 ?_
    refine aw_draw 49 mo (by kernel_rfl) ?_
    refine dz 16 ?_
    refine dsz 63 (fun g11_15 g11_15' => ?_) (fun g11_15 g11_15' => ?_)
    ·refine dz 9 ?_
     refine dr_yes rfl rfl (less_b g11_15) rfl (ev_index_map (k := (x.rest[u]).toNat) (xs := p.figs) sl23.h jz jz (by have := hfu; omega) (by have := hfu; omega)) ?_
     refine dz 5 ?_
     refine dsz 78 (fun g11_30 g11_30' => ?_) (fun g11_30 g11_30' => ?_)
     ·refine dz 6 ?_
      refine dr_yes rfl rfl (less_b g11_30) rfl (ev_index_map (k := (l[i]).toNat) (xs := p.hts) sl22.h jz jz (by have := hmi; omega) (by have := hmi; omega)) ?_
      refine dz 7 ?_
      refine dr_yes rfl rfl (less_b g11_30) rfl (ev_index_map (k := (l[u]).toNat) (xs := p.hts) sl22.h jz jz (by have := hmu; omega) (by have := hmu; omega)) ?_
      refine dz 3 ?_
      refine wz 0 ?_
      refine iz (fun c_96 c_96' => ?_) (fun c_96 c_96' => ?_)
      ·have hno : suits true p x l = false := by rw [hss, ranks_no2 hil huL (by rw [hcl]; unfold lf; simp_all)]; rfl
       refine wz 1 ?_
       exact rz rfl (Less.eq (by rw [hno]))
      have hnc : clash p x l i u = false := by rw [hcl, decide_eq_false (p := _ ∧ _) (fun q => by have := of_decide_eq_false c_96; omega), Bool.and_false]
      refine wz 3 ?_
      exact ⟨⟨u + 1, by omega, fun v hv => (by rcases Nat.lt_or_ge v u with q | q; exact hok2 v q; (obtain rfl : v = u := by omega); exact hnc)⟩, by simp only; omega, Sub.slots ⟨jz, jz, jz, jz, jz, jz, jz, trivial⟩⟩
     have hnc : clash p x l i u = false := by rw [hcl, decide_eq_false (p := _ ∧ _) (fun q => by have := of_decide_eq_false g11_30; omega), Bool.and_false]
     refine dz 18 ?_
     refine wz 4 ?_
     exact ⟨⟨u + 1, by omega, fun v hv => (by rcases Nat.lt_or_ge v u with q | q; exact hok2 v q; (obtain rfl : v = u := by omega); exact hnc)⟩, by simp only; omega, Sub.slots ⟨jz, jz, jz, jz, jz, jz, jz, trivial⟩⟩
    have hnc : clash p x l i u = false := by rw [hcl]; unfold lf; simp_all
    refine dz 33 ?_
    refine wz 4 ?_
    exact ⟨⟨u + 1, by omega, fun v hv => (by rcases Nat.lt_or_ge v u with q | q; exact hok2 v q; (obtain rfl : v = u := by omega); exact hnc)⟩, by simp only; omega, Sub.slots ⟨jz, jz, jz, jz, jz, jz, jz, trivial⟩⟩
   obtain rfl : u = l.length := by omega
   refine wz 3 ?_
   exact ⟨⟨i + 1, by omega, fun j hj => (by rcases Nat.lt_or_ge j i with q | q; exact hok j q; (obtain rfl : j = i := by omega); exact ⟨hle, fun u hu => hok2 u hu⟩)⟩, by simp only; omega, sb 2 ⟨jz, jz, jz, jz, jz, trivial⟩⟩
  obtain rfl : i = l.length := by omega
  have hall := ranks_yes (fun j hj => hok j hj)
  refine wz 3 ?_
  refine kz az (rstands_pure gP hk hxe gX (by omega)) ?_
  refine wz 1 ?_
  exact rz rfl (Less.eq (by rw [hss, hall, Bool.true_and]))
theorem rlists_step {p : Ply} (gP : PlB p) (mm : Nat) (ih : ∀ k, mm = k + 1 → ∀ now : List Int, now.length + k ≤ 4 → APure Tryz.prog 79 [plA p, ints now, I (now.length + k : Nat)] (hds (lst p k now))) (now : List Int) (hl : now.length + mm ≤ 4) : APure Tryz.prog 79 [plA p, ints now, I (now.length + mm : Nat)] (hds (lst p mm now)) := by
  refine ap Tryz.func79 (fun e0 he0 => ?_)
  refine vz 2 ?_
  refine sq_nil ?_
  refine aw_seq ?_
  refine aw_seq ?_
  have hnh := gP.nh
  refine wz 4 ?_
  refine iz (fun c_12 c_12' => ?_) (fun c_12 c_12' => ?_)
  ·obtain rfl : mm = 0 := by omega
   refine wz 1 ?_
   refine sq_ev rfl (ev_less (ev_buildSlice (es := [[_]]) sf61.h rfl rfl rfl rfl) (less_slx _ _)) ?_
   refine wz 1 ?_
   exact retQ_pure (v := .sl _ _) rfl rfl (Less.eq rfl)
  obtain ⟨k, rfl⟩ : ∃ k, mm = k + 1 := ⟨mm - 1, by omega⟩
  refine vz 2 ?_
  refine sq_nil ?_
  refine aw_block ?_
  refine aw_sub (sub_token 7 1 jz) ?_
  refine aw_loopk (ι := { k : Nat // k ≤ p.hts.length }) [1, 2, 3] (fun i => [(8, I i.1), (7, .own 1 1 ((lstK p k now i.1).map fun h => [ints h]))]) (fun H i => H.set 1 (.tok ((lstK p k now i.1).map fun h => [ints h]).length)) (fun i => p.hts.length - i.1) (⟨0, Nat.zero_le _⟩) ⟨jz, jz, jz, jz, jz, trivial⟩ rfl ?_
  rintro ⟨i, hi⟩
  refine nz ?_
  have hll := lstK_len gP (k := k) (by omega) now i
  have hl2 := lst_len gP (k := k) (by omega) (now ++ [(i : Int)])
  refine wz 5 ?_
  refine iz (fun c_19 c_19' => ?_) (fun c_19 c_19' => ?_)
  ·have hin : i < p.hts.length := by omega
   refine wz 2 ?_
   refine kz az (has_pure _ _ (by omega)) ?_
   refine wz 1 ?_
   refine iz (fun c_25 c_25' => ?_) (fun c_25 c_25' => ?_)
   ·have hnm : ¬ (i : Int) ∈ now := by simpa using c_25
    have eS : (lstK p k now (i + 1)).map (fun h => [ints h]) = (lstK p k now i).map (fun h => [ints h]) ++ (lst p k (now ++ [(i : Int)])).map (fun h => [ints h]) := by rw [lstK_yes hnm, List.map_append]
    refine aw_drawc [] [3, 6, 9] _ mo (by kernel_rfl) (HSub.mask [1] 0 _) ?_
    first | refine dc_ev rfl (ev_mv (v := .sl _ _) jz) ?_ | refine dc_ev rfl (ev_mv (v := .own _ _ _) jz) ?_ | refine dc_ev rfl (ev_mv (v := .raw _) jz) ?_ | refine dc_ev rfl (ev_mv (v := .slx _ _) jz) ?_ | refine dc_ev rfl (ev_mv (v := .msl _ _ _ _) jz) ?_
    first | refine dc_ev rfl (ev_load_agg jz rfl ty26.h rfl) ?_ | refine dc_ev rfl (ev_load_agg_i jz ty26.h (by exact Nat.le_of_ble_eq_true rfl)) ?_
    first | refine dc_ev rfl (ev_mv (v := .sl _ _) jz) ?_ | refine dc_ev rfl (ev_mv (v := .own _ _ _) jz) ?_ | refine dc_ev rfl (ev_mv (v := .raw _) jz) ?_ | refine dc_ev rfl (ev_mv (v := .slx _ _) jz) ?_ | refine dc_ev rfl (ev_mv (v := .msl _ _ _ _) jz) ?_
    refine dc_eff rfl rfl (eff_append_new rfl sf22.h Tryz.underlying22 (less_nilx _) jz (by simp; omega) (by simp; omega)) (by apply HL.sub; repeat' (first | exact HL.nil _ | apply HL.same | apply HL.tok)) ?_
    refine dc_ev rfl (ev_mv (v := .raw _) jz) ?_
    refine dc_ev rfl (ev_buildSlice (es := [[_]]) sf22.h rfl rfl rfl rfl) ?_
    refine dc_eff rfl rfl (eff_append rfl sf22.h Tryz.underlying22 rfl rfl (less_slx _ _) (by simp; omega) (by simp; omega)) (by apply HL.sub; repeat' (first | exact HL.nil _ | apply HL.same | apply HL.tok)) ?_
    refine dc_ev rfl (ev_mv (v := .raw _) jz) ?_
    refine dc_ev rfl (ev_call en79.h jz (ih k rfl (now ++ [(i : Int)]) (by simp; omega)) ⟨jz, Less.trans (less_own _ _ _) (Less.eq (by simp)), (by exact less_int (by simp; omega)), trivial⟩) ?_
    refine dc_eff rfl rfl (eff_append rfl sf61.h Tryz.underlying61 rfl rfl jz (by simp; omega) (by simp; omega)) (by apply HL.sub; repeat' (first | exact HL.nil _ | apply HL.same | apply HL.tok)) ?_
    first | refine dc_ev rfl (ev_as (v := .sl _ _) jz) ?_ | refine dc_ev rfl (ev_as (v := .own _ _ _) jz) ?_ | refine dc_ev rfl (ev_as (v := .raw _) jz) ?_ | refine dc_ev rfl (ev_as (v := .slx _ _) jz) ?_ | refine dc_ev rfl (ev_as (v := .msl _ _ _ _) jz) ?_
    refine dc_nil ?_
    refine wz 3 ?_
    exact ⟨⟨i + 1, by omega⟩, by simp only; omega, sb 2 ⟨jz, Less.eq (by rw [eS] <;> rfl), jz, jz, jz, trivial⟩ (hH := (congrArg (fun n => [_, AObj.tok n]) (congrArg List.length eS.symm)))⟩
   have hnm : (i : Int) ∈ now := by simpa using c_25
   have eS : (lstK p k now (i + 1)).map (fun h => [ints h]) = (lstK p k now i).map (fun h => [ints h]) := by rw [lstK_no hnm]
   refine wz 3 ?_
   exact ⟨⟨i + 1, by omega⟩, by simp only; omega, sb 2 ⟨jz, Less.eq (by rw [eS] <;> rfl), jz, jz, jz, trivial⟩ (hH := (congrArg (fun n => [_, AObj.tok n]) (congrArg List.length eS.symm)))⟩
  obtain rfl : i = p.hts.length := by omega
  refine wz 2 ?_
  exact retQ_pure (v := .own _ _ _) rfl rfl (Less.trans (less_own _ _ _) (Less.eq (by rw [lstK_all])))
theorem rlists_pure {p : Ply} (gP : PlB p) : ∀ (mm : Nat) (now : List Int), now.length + mm ≤ 4 → APure Tryz.prog 79 [plA p, ints now, I (now.length + mm : Nat)] (hds (lst p mm now))
  | 0, now, h => rlists_step gP 0 (fun k e => by omega) now h
  | m + 1, now, h => rlists_step gP (m + 1) (fun k e now h => by
      have e2 := Nat.succ.inj e
      subst e2
      exact rlists_pure gP m now h) now h
theorem rlists0 {p : Ply} (gP : PlB p) {m : Nat} (h : m ≤ 4) : APure Tryz.prog 79 [plA p, ints [], I m] (hds (lst p m [])) := by
  have := rlists_pure gP m [] (by simpa using h)
  simpa using this
theorem rall_pure {p : Ply} (gP : PlB p) {k : Nat} (hk : k < p.scs.length) {x : Scn} (hxe : p.scs[k] = x) (gX : ScB p x) : APure Tryz.prog 46 [plA p, I k] (hds (arr true p x)) := by
  refine ap Tryz.func46 (fun e0 he0 => ?_)
  refine vz 2 ?_
  refine sq_nil ?_
  refine aw_seq ?_
  have hr4 := gX.r4
  have hlen := lst_len gP (k := x.rest.length) gX.r4 []
  refine aw_draw 10 mo (by kernel_rfl) ?_
  refine dz 4 ?_
  refine dr_ev rfl (ev_less (ev_index_map (k := k) (xs := p.scs) sl24.h jz jz rfl hk) (Less.eq (b := .iptr (scC x)) (by rw [hxe]))) ?_
  refine dz 3 ?_
  refine dr_ev rfl (ev_call en79.h jz (rlists0 gP gX.r4) ⟨jz, less_nil 1, jz, trivial⟩) ?_
  refine dz 1 ?_
  refine vz 2 ?_
  refine sq_nil ?_
  refine aw_block ?_
  refine aw_sub (sub_token 6 1 jz) ?_
  refine aw_loopk (ι := { k : Nat // k ≤ (lst p x.rest.length []).length }) [1, 2, 5] (fun i => [(7, I i.1), (6, .own 1 1 ((((lst p x.rest.length []).take i.1).filter (suits true p x)).map fun h => [ints h]))]) (fun H i => H.set 1 (.tok ((((lst p x.rest.length []).take i.1).filter (suits true p x)).map fun h => [ints h]).length)) (fun i => (lst p x.rest.length []).length - i.1) (⟨0, Nat.zero_le _⟩) ⟨jz, jz, jz, jz, jz, trivial⟩ rfl ?_
  rintro ⟨i, hi⟩
  refine nz ?_
  have hfl : (((lst p x.rest.length []).take i).filter (suits true p x)).length ≤ i := Nat.le_trans (List.length_filter_le _ _) (by rw [List.length_take]; omega)
  refine wz 4 ?_
  refine iz (fun c_20 c_20' => ?_) (fun c_20 c_20' => ?_)
  ·have hil : i < (lst p x.rest.length []).length := by omega
   refine wz 0 ?_
   refine aw_draw 7 mo (by kernel_rfl) ?_
   refine dz 4 ?_
   refine dr_ev rfl (ev_index_map (k := i) (xs := lst p x.rest.length []) sl61.h jz jz rfl hil) ?_
   refine dz 1 ?_
   refine dkz az (rrests_pure gP hk hxe gX (suits_bnd rfl hil).1 (suits_bnd rfl hil).2) ?_
   refine dr_end ?_
   refine wz 0 ?_
   refine iz (fun c_29 c_29' => ?_) (fun c_29 c_29' => ?_)
   ·have eS : (((lst p x.rest.length []).take (i + 1)).filter (suits true p x)).map (fun h => [ints h]) = (((lst p x.rest.length []).take i).filter (suits true p x)).map (fun h => [ints h]) ++ [[ints (lst p x.rest.length [])[i]]] := by rw [fil_succ hil, if_pos c_29, List.map_append]; rfl
    refine wz 3 ?_
    refine sq_ev rfl (ev_index_map (k := i) (xs := lst p x.rest.length []) sl61.h jz jz rfl hil) ?_
    refine wz 1 ?_
    refine sq_ev rfl (ev_buildSlice (es := [[_]]) sf61.h rfl rfl rfl rfl) ?_
    first | refine sq_append rfl sf61.h Tryz.underlying61 rfl rfl jz (Nat.succ_pos _) (by simp; omega) (by simp; omega) ?_ | refine sq_append rfl sf61.h Tryz.underlying61 rfl rfl (less_slx _ _) (Nat.succ_pos _) (by simp; omega) (by simp; omega) ?_
    refine wz 4 ?_
    exact ⟨⟨i + 1, by omega⟩, by simp only; omega, sb 2 ⟨jz, Less.eq (by rw [eS] <;> rfl), jz, jz, jz, trivial⟩ (hH := (congrArg (fun n => [_, AObj.tok n]) (congrArg List.length eS.symm)))⟩
   have eS : (((lst p x.rest.length []).take (i + 1)).filter (suits true p x)).map (fun h => [ints h]) = (((lst p x.rest.length []).take i).filter (suits true p x)).map (fun h => [ints h]) := by rw [fil_succ hil, if_neg (by rw [c_29]; simp), List.append_nil]
   refine wz 3 ?_
   exact ⟨⟨i + 1, by omega⟩, by simp only; omega, sb 2 ⟨jz, Less.eq (by rw [eS] <;> rfl), jz, jz, jz, trivial⟩ (hH := (congrArg (fun n => [_, AObj.tok n]) (congrArg List.length eS.symm)))⟩
  obtain rfl : i = (lst p x.rest.length []).length := by omega
  refine wz 2 ?_
  exact retQ_pure (v := .own _ _ _) rfl rfl (Less.trans (less_own _ _ _) (Less.eq (by rw [List.take_length, arr_lst])))
theorem rcan_pure {p : Ply} (gP : PlB p) {k : Nat} (hk : k < p.scs.length) {x : Scn} (hxe : p.scs[k] = x) (gX : ScB p x) : APure Tryz.prog 69 [plA p, I k] (B (St.can p x)) := by
  refine ap Tryz.func69 (fun e0 he0 => ?_)
  refine vz 2 ?_
  refine sq_nil ?_
  refine aw_seq ?_
  have hal := arr_len gP gX true
  have hie : (!(arr true p x).isEmpty) = decide (((arr true p x).length : Int) > 0) := by rw [Bool.eq_iff_iff]; cases arr true p x <;> simp
  refine wz 2 ?_
  refine kz az (rhands_pure gP hk hxe gX) ?_
  refine wz 2 ?_
  refine sz 9 (fun g1_4 g1_4' => ?_) (fun g1_4 g1_4' => ?_)
  ·refine wz 2 ?_
   refine ky az (rall_pure gP hk hxe gX) ?_
   refine wz 4 ?_
   exact rz rfl (Less.eq (congrArg B (by unfold St.can; rw [hie]; simp [*])))
  refine wz 7 ?_
  exact rz rfl (Less.eq (congrArg B (by unfold St.can; rw [hie]; simp [*])))
theorem rfails_pure {p : Ply} (gP : PlB p) : APure Tryz.prog 23 [plA p] (I (failI p)) := by
  refine ap Tryz.func23 (fun e0 he0 => ?_)
  refine aw_seq ?_
  have hns := gP.ns
  refine wz 3 ?_
  refine aw_loopk (ι := { i : Nat // i ≤ p.scs.length ∧ ∀ j, j < i → St.can p (sc p j) = true }) [1] (fun i => [(3, I i.1)]) (fun H i => H) (fun i => p.scs.length - i.1) (⟨0, Nat.zero_le _, by omega⟩) ⟨jz, jz, trivial⟩ rfl ?_
  rintro ⟨i, hi, hok⟩
  refine nz ?_
  refine wz 5 ?_
  refine iz (fun c_8 c_8' => ?_) (fun c_8 c_8' => ?_)
  ·have hil : i < p.scs.length := by omega
   refine wz 2 ?_
   refine kz az (rcan_pure gP hil (sc_ok gP hil).1 (sc_ok gP hil).2) ?_
   refine wz 1 ?_
   refine iz (fun c_14 c_14' => ?_) (fun c_14 c_14' => ?_)
   ·have hres : failI p = i := by unfold failI; rw [fails_is hil (by simpa using c_14) hok]
    refine wz 2 ?_
    exact rz rfl (Less.eq (by rw [hres]))
   refine wz 3 ?_
   exact ⟨⟨i + 1, by omega, fun j hj => (by by_cases e : j = i; (subst e; simpa using c_14); exact hok j (by omega))⟩, by simp only; omega, Sub.slots ⟨jz, jz, trivial⟩⟩
  have hres : failI p = -1 := by unfold failI; rw [fails_no (fun j hj => hok j (by omega))]
  refine wz 1 ?_
  exact rz rfl (Less.eq (by rw [hres]))
theorem rindex_pure (l : List Int) (n : Int) (hl : l.length ≤ 1000000) : APure Tryz.prog 86 [ints l, I n] (I (ixQ (fun x => decide (n = x)) l)) := by
  refine ap Tryz.func86 (fun e0 he0 => ?_)
  refine wz 2 ?_
  refine aw_loopk (ι := { k : Nat // k ≤ l.length ∧ ∀ i, (hi : i < l.length) → i < k → decide (n = l[i]) = false }) [0, 1] (fun i => [(5, I i.1)]) (fun H i => H) (fun i => l.length - i.1) (⟨0, Nat.zero_le _, by omega⟩) ⟨jz, jz, jz, trivial⟩ rfl ?_
  rintro ⟨k, hk, hok⟩
  refine nz ?_
  refine wz 4 ?_
  refine iz (fun c_9 c_9' => ?_) (fun c_9 c_9' => ?_)
  ·have hkL : k < l.length := by omega
   refine wz 6 ?_
   refine iz (fun c_17 c_17' => ?_) (fun c_17 c_17' => ?_)
   ·refine wz 2 ?_
    exact rz rfl (Less.eq (by rw [ixQ_at (q := fun x => decide (n = x)) hkL (decide_eq_true (of_decide_eq_true c_17).symm) hok]))
   refine wz 3 ?_
   exact ⟨⟨k + 1, by omega, fun i hi h => (by by_cases e : i = k; (subst e; exact decide_eq_false (fun q => of_decide_eq_false c_17 q.symm)); exact hok i hi (by omega))⟩, by simp only; omega, Sub.slots ⟨jz, jz, jz, trivial⟩⟩
  refine wz 1 ?_
  exact rz rfl (Less.eq (by rw [ixQ_no (q := fun x => decide (n = x)) fun i hi => hok i hi (by omega)]))
end Go.Proofs.YtfmpabgblbbcdaaGreatDoor
namespace Go.Proofs.YtfmpabgblbbcdaaGreatDoor
open Go Go.Ab Ni St
open Hd hiding sz
theorem rfail_n {p : Ply} (gP : PlB p) (h : failsAt p = none) : APure Tryz.prog 23 [plA p] (I (-1)) := by have q := rfails_pure gP; unfold failI at q; rw [h] at q; exact q
theorem rfail_s {p : Ply} (gP : PlB p) {n : Nat} (h : failsAt p = some n) : APure Tryz.prog 23 [plA p] (I n) := by have q := rfails_pure gP; unfold failI at q; rw [h] at q; exact q
end Go.Proofs.YtfmpabgblbbcdaaGreatDoor
namespace Go.Proofs.YtfmpabgblbbcdaaGreatDoor
open Go Go.Ab Ni St
open Hd hiding sz
theorem can_nil {p : Ply} {x : Scn} (hz : arr true p x = []) : St.can p x = false := by unfold St.can; rw [hz]; simp
end Go.Proofs.YtfmpabgblbbcdaaGreatDoor
namespace Go.Proofs.YtfmpabgblbbcdaaGreatDoor
open Go Go.Ab Ni St
open Hd hiding sz
instance en124 : EnT Tryz.prog 124 := ⟨Ent.of Tryz.func124 (by kernel_rfl) rfl⟩
instance en125 : EnT Tryz.prog 125 := ⟨Ent.of Tryz.func125 (by kernel_rfl) rfl⟩
instance en65 : EnT Tryz.prog 65 := ⟨Ent.of Tryz.func65 (by kernel_rfl) rfl⟩
instance en66 : EnT Tryz.prog 66 := ⟨Ent.of Tryz.func66 (by kernel_rfl) rfl⟩
theorem plnOK_no {p : Ply} {L : List (List Int)} {n : Nat} (hn : n < L.length) (h : plnI p L n = false) : plnOK p L = false := by
  unfold plnOK
  rw [decide_eq_false (p := ∀ n, n < L.length → plnI p L n = true) (fun q => by rw [q n hn] at h; cases h), Bool.and_false]
theorem plnOK_yes {p : Ply} {L : List (List Int)} (hl : L.length = p.scs.length) (h : ∀ n, n < L.length → plnI p L n = true) : plnOK p L = true := by
  unfold plnOK; rw [decide_eq_true hl, decide_eq_true h]; rfl
theorem plnOK_len {p : Ply} {L : List (List Int)} (h : L.length ≠ p.scs.length) : plnOK p L = false := by unfold plnOK; rw [decide_eq_false h]; rfl
theorem pln_at {p : Ply} {L : List (List Int)} (h : plnOK p L = true) {n : Nat} (hn : n < L.length) : L[n].length = (sc p n).rest.length := by
  have h1 := (pln_get h).2 n hn
  rw [plnI_at hn, Bool.and_eq_true] at h1
  exact (plsOK_iff.1 h1.1).1
theorem rstep_pure {p : Ply} (gP : PlB p) {n : Nat} (hn : n + 1 < p.scs.length) {a b : List Int} (ha : a.length = (sc p n).rest.length) (hb : b.length = (sc p (n + 1)).rest.length) : APure Tryz.prog 125 [plA p, I n, ints a, ints b] (I (stp p n a b)) := by
  refine ap Tryz.func125 (fun e0 he0 => ?_)
  refine vz 2 ?_
  refine sq_nil ?_
  refine aw_seq ?_
  have hn0 : n < p.scs.length := by omega
  have hns := gP.ns
  have gX := sc_B gP hn0
  have gY := sc_B gP hn
  have hr4 := gX.r4
  have hr5 := gY.r4
  refine wz 2 ?_
  refine aw_loopk (ι := { m : Nat // m ≤ a.length }) [1, 2, 3, 4] (fun i => [(9, I (tnK (sc p n) (sc p (n + 1)) a b i.1 : Nat)), (10, I (i.1 : Nat))]) (fun H i => H) (fun i => a.length - i.1) (⟨0, Nat.zero_le _⟩) ⟨jz, jz, jz, jz, jz, jz, trivial⟩ rfl ?_
  rintro ⟨m, hm⟩
  refine nz ?_
  have htb := tnK_le (sc p n) (sc p (n + 1)) a b m
  refine wz 4 ?_
  refine iz (fun c_15 c_15' => ?_) (fun c_15 c_15' => ?_)
  ·have hma : m < a.length := by omega
   have hml : m < (sc p n).rest.length := by omega
   have hix := rindex_pure (sc p (n + 1)).rest ((sc p n).rest[m]) (by omega)
   rw [show ixQ (fun x => decide ((sc p n).rest[m] = x)) (sc p (n + 1)).rest = inB (sc p n) (sc p (n + 1)) m by unfold inB; rw [getD_at hml]] at hix
   refine wz 0 ?_
   refine aw_draw 18 mo (by kernel_rfl) ?_
   refine dz 4 ?_
   refine dr_ev rfl (ev_less (ev_index_map (k := n + 1) (xs := p.scs) sl24.h jz jz (by omega) hn) (Less.eq (b := .iptr (scC (sc p (n + 1)))) (by rw [sc_at hn]))) ?_
   refine dz 5 ?_
   refine dr_ev rfl (ev_less (ev_index_map (k := n) (xs := p.scs) sl24.h jz jz (by omega) hn0) (Less.eq (b := .iptr (scC (sc p (n)))) (by rw [sc_at hn0]))) ?_
   refine dz 3 ?_
   refine dr_ev rfl (ev_index_map (k := m) (xs := (sc p n).rest) sl22.h jz jz rfl hml) ?_
   refine dz 1 ?_
   refine dkz az (hix) ?_
   refine dz 1 ?_
   refine wz 0 ?_
   refine aw_draw 13 mo (by kernel_rfl) ?_
   refine dz 3 ?_
   refine dsz 37 (fun g6_2 g6_2' => ?_) (fun g6_2 g6_2' => ?_)
   ·have hge : 0 ≤ inB (sc p n) (sc p (n + 1)) m := by omega
    obtain ⟨hi1, hi2⟩ := ixQ_lt hge
    have hi2 : (inB (sc p n) (sc p (n + 1)) m).toNat < b.length := by rw [hb]; exact hi2
    refine dz 2 ?_
    refine dr_yes rfl rfl (less_b g6_2) rfl (ev_index_map (k := (inB (sc p n) (sc p (n + 1)) m).toNat) (xs := b) sl22.h jz jz hi1 hi2) ?_
    refine dz 3 ?_
    refine dr_yes rfl rfl (less_b g6_2) rfl (ev_index_map (k := m) (xs := a) sl22.h jz jz rfl hma) ?_
    refine dz 3 ?_
    refine wz 0 ?_
    refine iz (fun c_47 c_47' => ?_) (fun c_47 c_47' => ?_)
    ·have hst : tn1 (sc p n) (sc p (n + 1)) a b m = true := by unfold tn1; rw [decide_eq_true hge, getD_at hma, getD_at hi2, decide_eq_false (fun q => by rw [q] at c_47; simp at c_47)]; rfl
     refine wz 6 ?_
     exact ⟨⟨m + 1, by omega⟩, by simp only; omega, Sub.slots ⟨(by exact less_int (by rw [tnK_succ, hst]; simp)), jz, jz, jz, jz, jz, trivial⟩⟩
    have hst : tn1 (sc p n) (sc p (n + 1)) a b m = false := by unfold tn1; rw [getD_at hma, getD_at hi2, decide_eq_true (p := a[m] = b[(inB (sc p n) (sc p (n + 1)) m).toNat]) (by simp at c_47; exact c_47.symm)]; simp
    refine wz 3 ?_
    exact ⟨⟨m + 1, by omega⟩, by simp only; omega, Sub.slots ⟨(by exact less_int (by rw [tnK_succ, hst]; simp)), jz, jz, jz, jz, jz, trivial⟩⟩
   have hlt : ¬ 0 ≤ inB (sc p n) (sc p (n + 1)) m := by omega
   have hst : tn1 (sc p n) (sc p (n + 1)) a b m = false := by unfold tn1; rw [decide_eq_false hlt]; rfl
   refine dz 10 ?_
   refine wz 4 ?_
   exact ⟨⟨m + 1, by omega⟩, by simp only; omega, Sub.slots ⟨(by exact less_int (by rw [tnK_succ, hst]; simp)), jz, jz, jz, jz, jz, trivial⟩⟩
  obtain rfl : m = a.length := by omega
  refine wz 2 ?_
  exact rz rfl (Less.eq (by rw [ha]; rfl))
theorem risplan_pure {p : Ply} (gP : PlB p) (L : List (List Int)) (hL : L.length ≤ 1000000) (hl : ∀ l ∈ L, l.length ≤ 1000000) : APure Tryz.prog 65 [plA p, hds L] (B (plnOK p L)) := by
  refine ap Tryz.func65 (fun e0 he0 => ?_)
  refine vz 2 ?_
  refine sq_nil ?_
  refine aw_seq ?_
  refine aw_seq ?_
  have hns := gP.ns
  have hnh := gP.nh
  refine wz 6 ?_
  refine iz (fun c_11 c_11' => ?_) (fun c_11 c_11' => ?_)
  ·have hbad : plnOK p L = false := plnOK_len (by omega)
   refine wz 1 ?_
   exact rz rfl (Less.eq (by rw [hbad]))
  have hlen : L.length = p.scs.length := by omega
  refine wz 1 ?_
  refine aw_loopk (ι := { n : Nat // n ≤ L.length ∧ ∀ m, m < n → plnI p L m = true }) [1, 2] (fun i => [(5, I i.1)]) (fun H i => H) (fun i => L.length - i.1) (⟨0, Nat.zero_le _, by omega⟩) ⟨jz, jz, jz, trivial⟩ rfl ?_
  rintro ⟨n, hn, hok⟩
  refine nz ?_
  refine wz 4 ?_
  refine iz (fun c_15 c_15' => ?_) (fun c_15 c_15' => ?_)
  ·have hnL : n < L.length := by omega
   have hnl : n < p.scs.length := by omega
   refine wz 0 ?_
   refine aw_draw 18 mo (by kernel_rfl) ?_
   refine dz 4 ?_
   refine dr_ev rfl (ev_index_map (k := n) (xs := L) sl61.h jz jz rfl hnL) ?_
   refine dz 1 ?_
   refine dkz az (rlist_pure p hnl (by omega) (by omega) L[n] (hl _ (List.getElem_mem hnL)) (by have := (sc_B gP hnl).r4; omega)) ?_
   refine dz 2 ?_
   refine dsz 26 (fun g6_8 g6_8' => ?_) (fun g6_8 g6_8' => ?_)
   ·have hbad : plnOK p L = false := plnOK_no hnL (by rw [plnI_at hnL, show plsOK p (sc p n) L[n] = false by simpa using g6_8]; rfl)
    refine dz 9 ?_
    refine wz 2 ?_
    exact rz rfl (Less.eq (by rw [hbad]))
   have hpo : plsOK p (sc p n) L[n] = true := by simpa using g6_8
   refine dz 4 ?_
   refine dr_yes rfl rfl (less_b g6_8) rfl (ev_index_map (k := n) (xs := L) sl61.h jz jz rfl hnL) ?_
   refine dz 1 ?_
   refine dky az (rrests_pure gP hnl (sc_ok gP hnl).1 (sc_ok gP hnl).2 (plsOK_iff.1 hpo).1 (plsOK_iff.1 hpo).2) ?_
   refine dz 2 ?_
   refine wz 0 ?_
   refine iz (fun c_35 c_35' => ?_) (fun c_35 c_35' => ?_)
   ·have hbad : plnOK p L = false := plnOK_no hnL (by rw [plnI_at hnL, show suits true p (sc p n) L[n] = false by simpa using c_35, Bool.and_false])
    refine wz 1 ?_
    exact rz rfl (Less.eq (by rw [hbad]))
   have hgd : plnI p L n = true := by rw [plnI_at hnL, hpo, show suits true p (sc p n) L[n] = true by simpa using c_35]; rfl
   refine wz 3 ?_
   exact ⟨⟨n + 1, by omega, fun m hm => (by by_cases e : m = n; (subst e; exact hgd); exact hok m (by omega))⟩, by simp only; omega, Sub.slots ⟨jz, jz, jz, trivial⟩⟩
  obtain rfl : n = L.length := by omega
  have hall : plnOK p L = true := plnOK_yes hlen hok
  refine wz 1 ?_
  exact rz rfl (Less.eq (by rw [hall]))
theorem rchg_pure {p : Ply} (gP : PlB p) {L : List (List Int)} (ho : plnOK p L = true) : APure Tryz.prog 66 [plA p, hds L] (I (chg p L)) := by
  refine ap Tryz.func66 (fun e0 he0 => ?_)
  refine vz 2 ?_
  refine sq_nil ?_
  refine aw_seq ?_
  have hns := gP.ns
  have hlen := (pln_get ho).1
  refine wz 2 ?_
  refine aw_loopk (ι := { n : Nat // n + 1 ≤ L.length }) [1, 2] (fun i => [(5, I (chgK p L i.1)), (6, I i.1)]) (fun H i => H) (fun i => L.length - i.1) (⟨0, by omega⟩) ⟨(by exact less_int (by simp [chgK])), jz, jz, jz, trivial⟩ rfl ?_
  rintro ⟨n, hn⟩
  refine nz ?_
  have hbd := chgK_bd gP L n (by omega)
  refine wz 5 ?_
  refine iz (fun c_11 c_11' => ?_) (fun c_11 c_11' => ?_)
  ·have hn1 : n + 1 < L.length := by omega
   have hn0 : n < L.length := by omega
   have htb := turns_bd gP (n := n) (by omega) L[n] L[n + 1]
   refine wz 0 ?_
   refine aw_draw 14 mo (by kernel_rfl) ?_
   refine dz 5 ?_
   refine dr_ev rfl (ev_index_map (k := n) (xs := L) sl61.h jz jz rfl hn0) ?_
   refine dz 4 ?_
   refine dr_ev rfl (ev_index_map (k := n + 1) (xs := L) sl61.h jz jz (by omega) hn1) ?_
   refine dz 1 ?_
   refine dkz az (rstep_pure gP (n := n) (by omega) (pln_at ho hn0) (pln_at ho hn1)) ?_
   refine dz 1 ?_
   refine wz 4 ?_
   exact ⟨⟨n + 1, by omega⟩, by simp only; omega, Sub.slots ⟨(by exact less_int (by rw [chgK_succ, getD_at hn0, getD_at hn1])), jz, jz, jz, trivial⟩⟩
  have hend : n = L.length - 1 := by omega
  refine wz 2 ?_
  exact rz rfl (Less.eq (by rw [hend]; rfl))
end Go.Proofs.YtfmpabgblbbcdaaGreatDoor
namespace Go.Proofs.YtfmpabgblbbcdaaGreatDoor
open Go Go.Ab Ni St
open Hd hiding sz
theorem made_nil (n : Nat) : (madeCells #[Value.slice none 0 0] (n * 1)).toList = List.replicate n (.slice none 0 0) := by
  unfold madeCells
  rw [Nat.mul_one]
  apply List.ext_getElem?
  intro k
  simp only [Array.toList_map, Array.toList_range, List.getElem?_map, List.getElem?_range, List.getElem?_replicate]
  by_cases h : k < n
  · simp [h, Nat.mod_one]
  · simp [h]
theorem mk61 (n : Nat) (hn : n ≤ 1000000) : makeB Tryz.prog 61 n = some (List.replicate n (.slice none 0 0)) := by
  obtain ⟨i, h1, h2, h3, h4⟩ : ∃ i : TypeInfo, Tryz.prog.info? 22 = some i ∧ i.zero = some (.slice none 0 0) ∧ i.size = 1 ∧ i.bytes = 24 := ⟨_, rfl, rfl, rfl, rfl⟩
  unfold makeB
  rw [Tryz.underlying61]
  simp only [h1, h2, h3, h4]
  have e : (Value.slice none 0 0).cells = #[.slice none 0 0] := rfl
  rw [e, made_nil, if_pos ⟨Nat.ble_eq_true_of_le (by omega), by simp [Value.oneCell']⟩]
def lrow (p : Ply) (i : Nat) : List Int := (List.range (ls p i).length).map (lefI p i)
theorem lrow_len (p : Ply) (i : Nat) : (lrow p i).length = (ls p i).length := by unfold lrow; simp
theorem lrow_get {p : Ply} {i j : Nat} (h : j < (ls p i).length) : (lrow p i)[j]'(by rw [lrow_len]; exact h) = lefI p i j := by unfold lrow; simp
theorem lrow_succ {p : Ply} {i j : Nat} (h : j < (ls p i).length) : (lrow p i).take (j + 1) = (lrow p i).take j ++ [lefI p i j] := by
  rw [List.take_succ_eq_append_getElem (by rw [lrow_len]; exact h), lrow_get h]
abbrev nilV : AV := .raw (.slice none 0 0)
def rcL (p : Ply) (N n : Nat) : List AV := (List.range N).map fun i => if n ≤ i then ints (lrow p i) else nilV
theorem rcL_len (p : Ply) (N n : Nat) : (rcL p N n).length = N := by unfold rcL; simp
theorem rcL_get {p : Ply} {N n i : Nat} (h : i < N) : (rcL p N n)[i]? = some (if n ≤ i then ints (lrow p i) else nilV) := by unfold rcL; simp [h]
theorem rcL_at {p : Ply} {N n i : Nat} (h : i < (rcL p N n).length) : (rcL p N n)[i] = if n ≤ i then ints (lrow p i) else nilV := by
  have h2 := rcL_get (p := p) (n := n) (show i < N by rw [rcL_len] at h; exact h)
  rw [List.getElem?_eq_getElem h] at h2; exact Option.some.inj h2
theorem made_rc (p : Ply) (N : Nat) : (List.replicate N (Value.slice none 0 0)).map AV.raw = rcL p N N := by
  refine List.ext_getElem (by simp [rcL_len]) fun i h1 h2 => ?_
  rw [rcL_len] at h2
  rw [rcL_at, if_neg (by omega)]; simp
theorem rcL_set {p : Ply} {N n : Nat} (h : n < N) : (rcL p N (n + 1)).set n (ints (lrow p n)) = rcL p N n := by
  refine List.ext_getElem (by simp [rcL_len]) fun i h1 h2 => ?_
  rw [rcL_len] at h2
  rw [List.getElem_set]
  by_cases e : n = i
  · subst e; rw [if_pos rfl, rcL_at, if_pos (Nat.le_refl _)]
  · rw [if_neg e, rcL_at, rcL_at]
    by_cases q : n ≤ i
    · rw [if_pos q, if_pos (by omega)]
    · rw [if_neg q, if_neg (by omega)]
theorem rcL_all (p : Ply) (N : Nat) : rcL p N 0 = ((List.range N).map fun i => [ints (lrow p i)]).flatten ++ [] := by
  unfold rcL
  rw [List.append_nil]
  induction List.range N with
  | nil => rfl
  | cons a l ih => simp only [List.map_cons, List.flatten_cons, ← ih]; simp
theorem inL_rc (p : Ply) (N n k : Nat) : AV.inL k (rcL p N n) = true := by
  unfold rcL
  induction List.range N with
  | nil => rfl
  | cons a l ih =>
    rw [List.map_cons]
    show ((if n ≤ a then ints (lrow p a) else nilV).inB k && AV.inL k (l.map fun i => if n ≤ i then ints (lrow p i) else nilV)) = true
    rw [ih]; split <;> simp [AV.inB]
theorem inL_set {k : Nat} {x : AV} (hx : x.inB k = true) : ∀ {l : List AV} {n : Nat}, AV.inL k l = true → AV.inL k (l.set n x) = true
  | [], _, _ => rfl
  | a :: l, 0, h => by
    rw [List.set_cons_zero]
    show (x.inB k && AV.inL k l) = true
    have h : (a.inB k && AV.inL k l) = true := h
    rw [Bool.and_eq_true] at h
    rw [hx, h.2]; rfl
  | a :: l, n + 1, h => by
    rw [List.set_cons_succ]
    show (a.inB k && AV.inL k (l.set n x)) = true
    have h : (a.inB k && AV.inL k l) = true := h
    rw [Bool.and_eq_true] at h
    rw [h.1, inL_set hx h.2]; rfl
theorem row_in (p : Ply) (N n i : Nat) : AV.inL 4 ((rcL p N (n + 1)).set n (.own 3 1 (((lrow p n).take i).map fun x => [I x]))) = true := inL_set (by simp only [AV.inB, inE_ints]; rfl) (inL_rc _ _ _ _)
theorem sub_tok_at {c : Ctx} {s : St} (b n sz : Nat) {l : List AV} (hb : s.H[b]? = some (.cells l)) (hn : l[n]? = some nilV) : Sub c s { s with H := s.H.set b (.cells (l.set n (.own s.H.length sz []))) ++ [.tok 0] } := by
  obtain ⟨hl, he⟩ := List.getElem?_eq_some_iff.1 hn
  have e : l = l.take n ++ nilV :: l.drop (n + 1) := by rw [← he, ← List.drop_eq_getElem_cons, List.take_append_drop]
  have h := sub_token_cell (c := c) (s := s) b sz (l.take n) (l.drop (n + 1)) (by rw [← e]; exact hb)
  have e2 : l.set n (.own s.H.length sz []) = l.take n ++ .own s.H.length sz [] :: l.drop (n + 1) := by
    rw [List.set_eq_take_append_cons_drop, if_pos hl]
  rw [e2]; exact h
theorem repL_set_less {e : Env} {x y : AV} (hxy : Less x y) : ∀ {l : List AV} {n : Nat} {vs : List Value}, l[n]? = some x → RepL e l vs → RepL e (l.set n y) vs
  | [], n, vs, h, _ => by simp at h
  | a :: l, 0, vs, h, hr => by
    simp only [List.getElem?_cons_zero, Option.some.injEq] at h; subst h
    rw [RepL] at hr
    obtain ⟨v, rest, rfl, h2, h3⟩ := hr
    rw [List.set_cons_zero]
    exact RepL.cons (hxy _ _ h2) h3
  | a :: l, n + 1, vs, h, hr => by
    rw [RepL] at hr
    obtain ⟨v, rest, rfl, h2, h3⟩ := hr
    rw [List.set_cons_succ]
    exact RepL.cons h2 (repL_set_less hxy (by simpa using h) h3)
theorem sub_less_at {c : Ctx} {s : St} (b n : Nat) {l : List AV} {x y : AV} (hb : s.H[b]? = some (.cells l)) (hn : l[n]? = some x) (hxy : Less x y) : Sub c s { s with H := s.H.set b (.cells (l.set n y)) } :=
  sub_recell hb fun _ _ _ _ h => repL_set_less hxy hn h
theorem store_at {l : List AV} {n : Nat} (h : n < l.length) (x : AV) : l.take (0 + n * 1) ++ [x] ++ l.drop (0 + n * 1 + [x].length) = l.set n x := by
  rw [List.set_eq_take_append_cons_drop, if_pos h]; simp
def prI : Nat → Int
  | 0 => -1
  | n + 1 => n
@[simp] theorem prI_succ (n : Nat) : prI (n + 1) = n := rfl
theorem prI_down (n : Nat) : (n : Int) - 1 = prI n := by cases n with
  | zero => rfl
  | succ m => show ((m + 1 : Nat) : Int) - 1 = (m : Int); omega
theorem prI_pos {n : Nat} (h : prI n ≥ 0) : ∃ m, n = m + 1 := by
  cases n with
  | zero => exact absurd h (by decide)
  | succ m => exact ⟨m, rfl⟩
theorem prI_no {n : Nat} (h : ¬ prI n ≥ 0) : n = 0 := by
  cases n with
  | zero => rfl
  | succ m => exact absurd (show (m : Int) ≥ 0 by omega) h
def xsL (p : Ply) (n : Nat) (a : List Int) : List Int := (ls p (n + 1)).map fun b => lefF (ls p) (stp p) (p.scs.length - 1 - (n + 1)) (n + 1) b + stp p n a b
def bvL (p : Ply) (n : Nat) (a : List Int) (k : Nat) : Int := if k = 0 then (if n + 1 = p.scs.length then 0 else -1) else mnK (xsL p n a) k
theorem xsL_len (p : Ply) (n : Nat) (a : List Int) : (xsL p n a).length = (ls p (n + 1)).length := by unfold xsL; simp
theorem xsL_get {p : Ply} {n k : Nat} {a : List Int} (h : k < (ls p (n + 1)).length) : (xsL p n a)[k]'(by rw [xsL_len]; exact h) = lefI p (n + 1) k + stp p n a (ls p (n + 1))[k] := by
  unfold xsL lefI; rw [List.getElem_map, getD_at h]
theorem bvL_last {p : Ply} {n i : Nat} (h : n + 1 = p.scs.length) (a : List Int) : bvL p n a 0 = lefI p n i := by
  unfold bvL; rw [if_pos rfl, if_pos h, show n = p.scs.length - 1 by omega, lefI_last]
theorem bvL_all {p : Ply} {n i : Nat} (h : n + 1 < p.scs.length) (hi : i < (ls p n).length) (hp : 0 < (ls p (n + 1)).length) : bvL p n (ls p n)[i] (ls p (n + 1)).length = lefI p n i := by
  unfold bvL; rw [if_neg (by omega), ← xsL_len p n, mnK_all]
  unfold lefI
  rw [show p.scs.length - 1 - n = (p.scs.length - 1 - (n + 1)) + 1 by omega, getD_at hi]
  rfl
theorem bvL_neg {p : Ply} {n k : Nat} {a : List Int} (h : n + 1 < p.scs.length) (hk : k = 0) : bvL p n a k = -1 := by unfold bvL; rw [if_pos hk, if_neg (by omega)]
theorem mnK_ge {l : List Int} (h : ∀ x ∈ l, 0 ≤ x) : ∀ {k : Nat}, 1 ≤ k → k ≤ l.length → 0 ≤ mnK l k
  | 1, _, h2 => by rw [mnK_1 (by omega)]; exact h _ (List.getElem_mem _)
  | k + 2, _, h2 => by
    rw [mnK_succ (by omega) (by omega)]
    have := mnK_ge h (k := k + 1) (by omega) (by omega)
    have := h _ (List.getElem_mem (show k + 1 < l.length by omega)); omega
theorem bvL_bd {p : Ply} (gP : PlB p) (hA : ∀ i, i < p.scs.length → ls p i ≠ []) {n k : Nat} {a : List Int} (h : n + 1 < p.scs.length) (hk : k ≤ (ls p (n + 1)).length) (h0 : 0 < k) : 0 ≤ bvL p n a k ∧ bvL p n a k ≤ 1000 := by
  have hx : ∀ x ∈ xsL p n a, 0 ≤ x ∧ x ≤ 1000 := fun x hx => by
    unfold xsL at hx
    obtain ⟨b, _, rfl⟩ := List.mem_map.1 hx
    have h1 := lefF_bd gP hA (p.scs.length - 1 - (n + 1)) (n + 1) b (by omega)
    have h2 := turns_bd gP (n := n) (by omega) a b
    have h3 := gP.ns
    omega
  have e : bvL p n a k = mnK (xsL p n a) k := by unfold bvL; rw [if_neg (by omega)]
  rw [e]
  have h1 := mnK_ge (fun x q => (hx x q).1) h0 (by rw [xsL_len]; exact hk)
  refine ⟨h1, ?_⟩
  have : ∀ {l : List Int} (_ : ∀ x ∈ l, x ≤ 1000) {k : Nat}, 1 ≤ k → k ≤ l.length → mnK l k ≤ 1000 := by
    intro l hl k
    induction k with
    | zero => intro h; omega
    | succ k ih =>
      intro _ h2
      rcases Nat.eq_zero_or_pos k with q | q
      · subst q; rw [mnK_1 (by omega)]; exact hl _ (List.getElem_mem _)
      · rw [mnK_succ q (by omega)]; have := ih q (by omega); omega
  exact this (fun x q => (hx x q).2) h0 (by rw [xsL_len]; exact hk)
theorem bvL_step1 {p : Ply} {n k : Nat} {a : List Int} (h : n + 1 < p.scs.length) (hk : k < (ls p (n + 1)).length) {v : Int} (hv : v = lefI p (n + 1) k + stp p n a (ls p (n + 1))[k]) (h0 : k = 0 ∨ v < bvL p n a k) : bvL p n a (k + 1) = v := by
  have e : bvL p n a (k + 1) = mnK (xsL p n a) (k + 1) := by unfold bvL; rw [if_neg (by omega)]
  rw [e]
  rcases Nat.eq_zero_or_pos k with q | q
  · subst q; rw [mnK_1 (by rw [xsL_len]; exact hk), xsL_get hk, hv]
  · have e2 : bvL p n a k = mnK (xsL p n a) k := by unfold bvL; rw [if_neg (by omega)]
    rw [mnK_succ q (by rw [xsL_len]; exact hk), xsL_get hk, ← hv, ← e2]
    have : v < bvL p n a k := by rcases h0 with h0 | h0; omega; exact h0
    omega
theorem bvL_step2 {p : Ply} {n k : Nat} {a : List Int} (hk : k < (ls p (n + 1)).length) {v : Int} (hv : v = lefI p (n + 1) k + stp p n a (ls p (n + 1))[k]) (hq : 0 < k) (h0 : ¬ v < bvL p n a k) : bvL p n a (k + 1) = bvL p n a k := by
  have e : bvL p n a (k + 1) = mnK (xsL p n a) (k + 1) := by unfold bvL; rw [if_neg (by omega)]
  have e2 : bvL p n a k = mnK (xsL p n a) k := by unfold bvL; rw [if_neg (by omega)]
  rw [e, mnK_succ hq (by rw [xsL_len]; exact hk), xsL_get hk, ← hv, ← e2]
  omega
theorem bvL_big {p : Ply} (gP : PlB p) (hA : ∀ i, i < p.scs.length → ls p i ≠ []) {n k : Nat} {a : List Int} (h : n + 1 < p.scs.length) (hk : k ≤ (ls p (n + 1)).length) (hn : bvL p n a k < 0) : k = 0 := by
  rcases Nat.eq_zero_or_pos k with q | q
  · exact q
  · have := (bvL_bd gP hA h hk q (a := a)).1; omega
theorem rrest_pure {p : Ply} (gP : PlB p) (hA : ∀ i, i < p.scs.length → ls p i ≠ []) : APure Tryz.prog 124 [plA p] (.tup [.sl 1 ((List.range p.scs.length).map fun i => [ints (lrow p i)]), .sl 1 ((List.range p.scs.length).map (fun i => [hds (ls p i)]))]) := by
  refine ap Tryz.func124 (fun e0 he0 => ?_)
  refine vz 3 ?_
  refine sq_nil ?_
  refine aw_seq ?_
  have hns := gP.ns
  refine vz 2 ?_
  refine sq_nil ?_
  refine aw_block ?_
  refine aw_sub (sub_token 4 1 jz) ?_
  refine aw_loopk (ι := { k : Nat // k ≤ p.scs.length }) [1] (fun i => [(5, I i.1), (4, .own 1 1 (((List.range i.1)).map fun i => [hds (ls p i)]))]) (fun H i => H.set 1 (.tok (((List.range i.1)).map fun i => [hds (ls p i)]).length)) (fun i => p.scs.length - i.1) (⟨0, Nat.zero_le _⟩) ⟨jz, jz, jz, trivial⟩ rfl ?_
  rintro ⟨k, hk⟩
  refine nz ?_
  refine wz 5 ?_
  refine iz (fun c_16 c_16' => ?_) (fun c_16 c_16' => ?_)
  ·have hkl : k < p.scs.length := by omega
   have eS : (List.range (k + 1)).map (fun i => [hds (ls p i)]) = (List.range k).map (fun i => [hds (ls p i)]) ++ [[hds (ls p k)]] := rng_app _ k
   refine wz 3 ?_
   refine kz az (rall_pure gP hkl (sc_ok gP hkl).1 (sc_ok gP hkl).2) ?_
   refine sq_ev rfl (ev_buildSlice (es := [[_]]) sf106.h rfl rfl rfl rfl) ?_
   first | refine sq_append rfl sf106.h Tryz.underlying106 rfl rfl jz (Nat.succ_pos _) (by simp; omega) (by simp; omega) ?_ | refine sq_append rfl sf106.h Tryz.underlying106 rfl rfl (less_slx _ _) (Nat.succ_pos _) (by simp; omega) (by simp; omega) ?_
   refine wz 4 ?_
   exact ⟨⟨k + 1, by omega⟩, by simp only; omega, sb 2 ⟨jz, Less.eq (by rw [eS] <;> rfl), jz, trivial⟩ (hH := (congrArg (fun n => [_, AObj.tok n]) (congrArg List.length eS.symm)))⟩
  obtain rfl : k = p.scs.length := by omega
  refine wz 1 ?_
  refine sq_ev rfl (ev_less (ev_len_map sl106.h (less_own _ _ _)) (Less.eq (b := I p.scs.length) (by simp))) ?_
  refine sq_make (n := p.scs.length) rfl (mk61 _ (by omega)) (by omega) jz jz ?_
  refine wz 2 ?_
  refine sq_ev rfl (ev_less (ev_len_map sl106.h (less_own _ _ _)) (Less.eq (b := I p.scs.length) (by simp))) ?_
  refine vz 2 ?_
  refine sq_nil ?_
  refine aw_block ?_
  refine nz ?_
  refine aw_sub (Sub.less (sl' := [(1, .ptr 0 0), (4, .sl 1 ((List.range p.scs.length).map (fun i => [hds (ls p i)]))), (6, .msl 2 0 p.scs.length p.scs.length), (7, I ((p.scs.length : Int) - 1))]) (fun q hq => ?_)) ?_
  ·simp only [List.mem_cons, List.not_mem_nil, or_false] at hq; rcases hq with rfl | rfl | rfl | rfl; exact jz; exact less_own _ _ _; exact jz; exact jz
  refine nz ?_
  refine aw_loopk (ι := { n : Nat // n ≤ p.scs.length }) [1, 4, 6] (fun g => [(7, I (prI g.1))]) (fun H g => [.cells (plC p), .tok ((List.range p.scs.length).map (fun i => [hds (ls p i)])).length, .cells (rcL p p.scs.length g.1)]) (fun g => g.1) (⟨p.scs.length, Nat.le_refl _⟩) ⟨(by exact less_int (by rw [show p.scs.length = (p.scs.length - 1) + 1 by omega, prI_succ]; omega)), jz, jz, jz, trivial⟩ (by show _ = _; rw [← made_rc]; rfl) ?_
  rintro ⟨n0, hn⟩
  refine nz ?_
  refine wz 2 ?_
  refine iz (fun c_32 c_32' => ?_) (fun c_32 c_32' => ?_)
  ·obtain ⟨n, rfl⟩ := prI_pos (of_decide_eq_true c_32)
   have hpr : prI (n + 1) = (n : Int) := rfl
   have hnl : n < p.scs.length := by omega
   refine nz ?_
   refine vz 1 ?_
   refine sq_nil ?_
   refine aw_block ?_
   refine aw_sub (sub_tok_at 2 n 1 (l := rcL p p.scs.length (n + 1)) rfl (by rw [rcL_get hnl, if_neg (by omega)])) ?_
   refine aw_loopk (ι := { i : Nat // i ≤ (ls p n).length }) [1, 4, 6, 7] (fun y => [(8, I y.1)]) (fun H y => [.cells (plC p), .tok ((List.range p.scs.length).map (fun i => [hds (ls p i)])).length, .cells ((rcL p p.scs.length (n + 1)).set n (.own 3 1 (((lrow p n).take y.1).map fun x => [I x]))), .tok (((lrow p n).take y.1).map fun x => [I x]).length]) (fun y => (ls p n).length - y.1) (⟨0, Nat.zero_le _⟩) ⟨jz, jz, jz, jz, jz, trivial⟩ rfl ?_
   rintro ⟨i, hi⟩
   refine nz ?_
   have hal : (ls p n).length ≤ 1296 := arr_len gP (sc_B gP hnl) true
   have hlr := lrow_len p n
   refine wz 3 ?_
   refine sq_ev rfl (ev_less (ev_index_map (k := n) (xs := List.range p.scs.length) sl106.h jz jz (by simp) (by simp; omega)) (Less.eq (b := .iptr [hds (ls p (n))]) (by simp))) ?_
   refine wz 3 ?_
   refine iz (fun c_41 c_41' => ?_) (fun c_41 c_41' => ?_)
   ·have hil : i < (ls p n).length := by omega
    refine wz 3 ?_
    refine sq_ev rfl (ev_less (ev_len_map sl106.h (jz)) (Less.eq (b := I p.scs.length) (by simp))) ?_
    refine wz 2 ?_
    refine iz (fun c_48 c_48' => ?_) (fun c_48 c_48' => ?_)
    ·have hla : n + 1 = p.scs.length := by omega
     refine wz 2 ?_
     refine aw_loopk (ι := { k : Nat // (k = 0 ∨ n + 1 < p.scs.length) ∧ k ≤ (ls p (n + 1)).length }) [1, 4, 6, 7, 8] (fun u => [(9, I (bvL p n (ls p n)[i] u.1)), (10, I u.1)]) (fun H u => H) (fun u => (ls p (n + 1)).length - u.1) (⟨0, .inl rfl, Nat.zero_le _⟩) ⟨(by exact less_int (by unfold bvL; simp; omega)), jz, jz, jz, jz, jz, jz, trivial⟩ rfl ?_
     rintro ⟨k, hk0, hk⟩
     refine nz ?_
     refine wz 2 ?_
     refine sq_ev rfl (ev_less (ev_len_map sl106.h (jz)) (Less.eq (b := I p.scs.length) (by simp))) ?_
     refine wz 3 ?_
     refine sz 54 (fun g17_5 g17_5' => ?_) (fun g17_5 g17_5' => ?_)
     ·have hn1 : n + 1 < p.scs.length := by omega
      have hal1 : (ls p (n + 1)).length ≤ 1296 := arr_len gP (sc_B gP hn1) true
      refine wz 4 ?_
      refine sq_yes rfl rfl (less_b g17_5) rfl (ev_less (ev_index_map (k := n + 1) (xs := List.range p.scs.length) sl106.h jz jz (by simp) (by simp; omega)) (Less.eq (b := .iptr [hds (ls p (n + 1))]) (by simp))) ?_
      refine wz 4 ?_
      refine iz (fun c_63 c_63' => ?_) (fun c_63 c_63' => ?_)
      ·have hkl : k < (ls p (n + 1)).length := by omega
       have htb := turns_bd gP (n := n) (by omega) (ls p n)[i] (ls p (n + 1))[k]
       have hlb := lefI_bd gP hA k hn1
       refine wz 0 ?_
       refine aw_draw 28 mo (by kernel_rfl) ?_
       refine dz 4 ?_
       refine dr_ev rfl (ev_less (ev_index_map (k := n) (xs := List.range p.scs.length) sl106.h jz jz (by simp) (by simp; omega)) (Less.eq (b := .iptr [hds (ls p (n))]) (by simp))) ?_
       refine dz 2 ?_
       refine dr_ev rfl (ev_index_map (k := i) (xs := ls p n) sl61.h jz jz rfl hil) ?_
       refine dz 4 ?_
       refine dr_ev rfl (ev_less (ev_index_map (k := n + 1) (xs := List.range p.scs.length) sl106.h jz jz (by simp) (by simp; omega)) (Less.eq (b := .iptr [hds (ls p (n + 1))]) (by simp))) ?_
       refine dz 2 ?_
       refine dr_ev rfl (ev_index_map (k := k) (xs := ls p (n + 1)) sl61.h jz jz rfl hkl) ?_
       refine dz 1 ?_
       refine dkz az (rstep_pure gP (n := n) hn1 (mem_arr.1 (List.getElem_mem hil)).1 (mem_arr.1 (List.getElem_mem hkl)).1) ?_
       refine dz 3 ?_
       refine dr_ev rfl (ev_index_msl (k := n + 1) sl61.h jz jz (by simp) hn1) ?_
       refine dr_ev rfl (ev_load (v := ints (lrow p (n + 1))) jz rfl ty22.h (by rw [List.getElem?_set_ne (by omega), show 0 + (n + 1) * 1 = n + 1 by omega, rcL_get hn1, if_pos (by omega)])) ?_
       refine dz 1 ?_
       refine dr_ev rfl (ev_less (ev_index_map (k := k) (xs := lrow p (n + 1)) sl22.h jz jz rfl (by rw [lrow_len]; exact hkl)) (Less.eq (b := .iptr [I (lefI p (n + 1) k)]) (by rw [lrow_get hkl]))) ?_
       refine dz 3 ?_
       refine wz 3 ?_
       refine sz 95 (fun g20_2 g20_2' => ?_) (fun g20_2 g20_2' => ?_)
       ·have ebv := bvL_step1 (a := (ls p n)[i]) hn1 hkl (v := stp p n (ls p n)[i] (ls p (n + 1))[k] + lefI p (n + 1) k) (Int.add_comm _ _) (.inl (bvL_big gP hA hn1 hk (of_decide_eq_true g20_2)))
        refine wz 10 ?_
        exact ⟨⟨k + 1, .inr hn1, by omega⟩, by simp only; omega, Sub.slots ⟨(by exact less_int ebv.symm), jz, jz, jz, jz, jz, jz, trivial⟩⟩
       refine wz 4 ?_
       refine iz (fun c_99 c_99' => ?_) (fun c_99 c_99' => ?_)
       ·have ebv := bvL_step1 (a := (ls p n)[i]) hn1 hkl (v := stp p n (ls p n)[i] (ls p (n + 1))[k] + lefI p (n + 1) k) (Int.add_comm _ _) (.inr (of_decide_eq_true c_99))
        refine wz 5 ?_
        exact ⟨⟨k + 1, .inr hn1, by omega⟩, by simp only; omega, Sub.slots ⟨(by exact less_int ebv.symm), jz, jz, jz, jz, jz, jz, trivial⟩⟩
       have hk1 : 0 < k := by (rcases Nat.eq_zero_or_pos k with q | q; (have := bvL_neg (a := (ls p n)[i]) hn1 q; omega); exact q)
       have ebv := bvL_step2 (a := (ls p n)[i]) hkl (v := stp p n (ls p n)[i] (ls p (n + 1))[k] + lefI p (n + 1) k) (Int.add_comm _ _) hk1 (of_decide_eq_false c_99)
       refine wz 3 ?_
       exact ⟨⟨k + 1, .inr hn1, by omega⟩, by simp only; omega, Sub.slots ⟨(by exact less_int ebv.symm), jz, jz, jz, jz, jz, jz, trivial⟩⟩
      obtain rfl : k = (ls p (n + 1)).length := by omega
      have ebv : bvL p n (ls p n)[i] (ls p (n + 1)).length = lefI p n i := bvL_all hn1 hil (List.length_pos_iff.2 (hA _ hn1))
      have eS : ((lrow p n).take (i + 1)).map (fun x => [I x]) = ((lrow p n).take i).map (fun x => [I x]) ++ [[I (lefI p n i)]] := by rw [lrow_succ hil, List.map_append]; rfl
      have eP : (((rcL p p.scs.length (n + 1)).set n (.own 3 1 (((lrow p n).take i).map fun x => [I x]))).take (0 + n * 1) ++ [AV.own 3 1 ((((lrow p n).take i).map fun x => [I x]) ++ [[I (lefI p n i)]])] ++ ((rcL p p.scs.length (n + 1)).set n (.own 3 1 (((lrow p n).take i).map fun x => [I x]))).drop (0 + n * 1 + [AV.own 3 1 ((((lrow p n).take i).map fun x => [I x]) ++ [[I (lefI p n i)]])].length), ((((lrow p n).take i).map fun x => [I x]) ++ [[I (lefI p n i)]]).length) = ((rcL p p.scs.length (n + 1)).set n (.own 3 1 (((lrow p n).take (i + 1)).map fun x => [I x])), (((lrow p n).take (i + 1)).map fun x => [I x]).length) := by rw [store_at (by rw [List.length_set, rcL_len]; exact hnl), List.set_set, eS]
      refine wz 4 ?_
      refine sq_ev rfl (ev_index_msl (k := n) sl61.h jz jz rfl hnl) ?_
      refine sq_ev rfl (ev_load (v := .own 3 1 (((lrow p n).take i).map fun x => [I x])) jz rfl ty22.h (by rw [show 0 + n * 1 = n by omega, List.getElem?_set_self (by rw [rcL_len]; exact hnl)])) ?_
      refine wz 1 ?_
      refine sq_ev rfl (ev_less (ev_buildSlice (es := [[_]]) sf22.h rfl rfl rfl rfl) (Less.eq (b := .slx 1 [[I (lefI p n i)]]) (by rw [← ebv]))) ?_
      refine sq_append rfl sf22.h Tryz.underlying22 rfl rfl (less_slx _ _) (Nat.succ_pos _) (by simp; omega) (by simp; omega) ?_
      refine sq_ev rfl (ev_index_msl (k := n) sl61.h jz jz rfl hnl) ?_
      refine sq_store (j := 2) (off := 0 + n * 1) rfl jz jz rfl rfl ty22.h rfl (Nat.ble_eq_true_of_le (by rw [List.length_set, rcL_len]; omega)) ?_
      refine wz 3 ?_
      exact ⟨⟨i + 1, by omega⟩, by simp only; omega, sb 4 ⟨jz, jz, jz, jz, jz, trivial⟩ (hH := (congrArg (fun z : List AV × Nat => [_, _, AObj.cells z.1, AObj.tok z.2]) eP)) (h2 := (by simp [objsIn, AObj.inB, AV.inB, AV.inL, -List.map_take, row_in]))⟩
     have hn1 : n + 1 = p.scs.length := by omega
     obtain rfl : k = 0 := by omega
     have ebv : bvL p n (ls p n)[i] 0 = lefI p n i := bvL_last hn1 _
     have eS : ((lrow p n).take (i + 1)).map (fun x => [I x]) = ((lrow p n).take i).map (fun x => [I x]) ++ [[I (lefI p n i)]] := by rw [lrow_succ hil, List.map_append]; rfl
     have eP : (((rcL p p.scs.length (n + 1)).set n (.own 3 1 (((lrow p n).take i).map fun x => [I x]))).take (0 + n * 1) ++ [AV.own 3 1 ((((lrow p n).take i).map fun x => [I x]) ++ [[I (lefI p n i)]])] ++ ((rcL p p.scs.length (n + 1)).set n (.own 3 1 (((lrow p n).take i).map fun x => [I x]))).drop (0 + n * 1 + [AV.own 3 1 ((((lrow p n).take i).map fun x => [I x]) ++ [[I (lefI p n i)]])].length), ((((lrow p n).take i).map fun x => [I x]) ++ [[I (lefI p n i)]]).length) = ((rcL p p.scs.length (n + 1)).set n (.own 3 1 (((lrow p n).take (i + 1)).map fun x => [I x])), (((lrow p n).take (i + 1)).map fun x => [I x]).length) := by rw [store_at (by rw [List.length_set, rcL_len]; exact hnl), List.set_set, eS]
     refine wz 14 ?_
     refine sq_ev rfl (ev_index_msl (k := n) sl61.h jz jz rfl hnl) ?_
     refine sq_ev rfl (ev_load (v := .own 3 1 (((lrow p n).take i).map fun x => [I x])) jz rfl ty22.h (by rw [show 0 + n * 1 = n by omega, List.getElem?_set_self (by rw [rcL_len]; exact hnl)])) ?_
     refine wz 1 ?_
     refine sq_ev rfl (ev_less (ev_buildSlice (es := [[_]]) sf22.h rfl rfl rfl rfl) (Less.eq (b := .slx 1 [[I (lefI p n i)]]) (by rw [← ebv]))) ?_
     refine sq_append rfl sf22.h Tryz.underlying22 rfl rfl (less_slx _ _) (Nat.succ_pos _) (by simp; omega) (by simp; omega) ?_
     refine sq_ev rfl (ev_index_msl (k := n) sl61.h jz jz rfl hnl) ?_
     refine sq_store (j := 2) (off := 0 + n * 1) rfl jz jz rfl rfl ty22.h rfl (Nat.ble_eq_true_of_le (by rw [List.length_set, rcL_len]; omega)) ?_
     refine wz 3 ?_
     exact ⟨⟨i + 1, by omega⟩, by simp only; omega, sb 4 ⟨jz, jz, jz, jz, jz, trivial⟩ (hH := (congrArg (fun z : List AV × Nat => [_, _, AObj.cells z.1, AObj.tok z.2]) eP)) (h2 := (by simp [objsIn, AObj.inB, AV.inB, AV.inL, -List.map_take, row_in]))⟩
    have hla : ¬ n + 1 = p.scs.length := by omega
    refine wz 1 ?_
    refine aw_loopk (ι := { k : Nat // (k = 0 ∨ n + 1 < p.scs.length) ∧ k ≤ (ls p (n + 1)).length }) [1, 4, 6, 7, 8] (fun u => [(9, I (bvL p n (ls p n)[i] u.1)), (10, I u.1)]) (fun H u => H) (fun u => (ls p (n + 1)).length - u.1) (⟨0, .inl rfl, Nat.zero_le _⟩) ⟨(by exact less_int (by unfold bvL; simp; omega)), jz, jz, jz, jz, jz, jz, trivial⟩ rfl ?_
    rintro ⟨k, hk0, hk⟩
    refine nz ?_
    refine wz 2 ?_
    refine sq_ev rfl (ev_less (ev_len_map sl106.h (jz)) (Less.eq (b := I p.scs.length) (by simp))) ?_
    refine wz 3 ?_
    refine sz 54 (fun g17_5 g17_5' => ?_) (fun g17_5 g17_5' => ?_)
    ·have hn1 : n + 1 < p.scs.length := by omega
     have hal1 : (ls p (n + 1)).length ≤ 1296 := arr_len gP (sc_B gP hn1) true
     refine wz 4 ?_
     refine sq_yes rfl rfl (less_b g17_5) rfl (ev_less (ev_index_map (k := n + 1) (xs := List.range p.scs.length) sl106.h jz jz (by simp) (by simp; omega)) (Less.eq (b := .iptr [hds (ls p (n + 1))]) (by simp))) ?_
     refine wz 4 ?_
     refine iz (fun c_63 c_63' => ?_) (fun c_63 c_63' => ?_)
     ·have hkl : k < (ls p (n + 1)).length := by omega
      have htb := turns_bd gP (n := n) (by omega) (ls p n)[i] (ls p (n + 1))[k]
      have hlb := lefI_bd gP hA k hn1
      refine wz 0 ?_
      refine aw_draw 28 mo (by kernel_rfl) ?_
      refine dz 4 ?_
      refine dr_ev rfl (ev_less (ev_index_map (k := n) (xs := List.range p.scs.length) sl106.h jz jz (by simp) (by simp; omega)) (Less.eq (b := .iptr [hds (ls p (n))]) (by simp))) ?_
      refine dz 2 ?_
      refine dr_ev rfl (ev_index_map (k := i) (xs := ls p n) sl61.h jz jz rfl hil) ?_
      refine dz 4 ?_
      refine dr_ev rfl (ev_less (ev_index_map (k := n + 1) (xs := List.range p.scs.length) sl106.h jz jz (by simp) (by simp; omega)) (Less.eq (b := .iptr [hds (ls p (n + 1))]) (by simp))) ?_
      refine dz 2 ?_
      refine dr_ev rfl (ev_index_map (k := k) (xs := ls p (n + 1)) sl61.h jz jz rfl hkl) ?_
      refine dz 1 ?_
      refine dkz az (rstep_pure gP (n := n) hn1 (mem_arr.1 (List.getElem_mem hil)).1 (mem_arr.1 (List.getElem_mem hkl)).1) ?_
      refine dz 3 ?_
      refine dr_ev rfl (ev_index_msl (k := n + 1) sl61.h jz jz (by simp) hn1) ?_
      refine dr_ev rfl (ev_load (v := ints (lrow p (n + 1))) jz rfl ty22.h (by rw [List.getElem?_set_ne (by omega), show 0 + (n + 1) * 1 = n + 1 by omega, rcL_get hn1, if_pos (by omega)])) ?_
      refine dz 1 ?_
      refine dr_ev rfl (ev_less (ev_index_map (k := k) (xs := lrow p (n + 1)) sl22.h jz jz rfl (by rw [lrow_len]; exact hkl)) (Less.eq (b := .iptr [I (lefI p (n + 1) k)]) (by rw [lrow_get hkl]))) ?_
      refine dz 3 ?_
      refine wz 3 ?_
      refine sz 95 (fun g20_2 g20_2' => ?_) (fun g20_2 g20_2' => ?_)
      ·have ebv := bvL_step1 (a := (ls p n)[i]) hn1 hkl (v := stp p n (ls p n)[i] (ls p (n + 1))[k] + lefI p (n + 1) k) (Int.add_comm _ _) (.inl (bvL_big gP hA hn1 hk (of_decide_eq_true g20_2)))
       refine wz 10 ?_
       exact ⟨⟨k + 1, .inr hn1, by omega⟩, by simp only; omega, Sub.slots ⟨(by exact less_int ebv.symm), jz, jz, jz, jz, jz, jz, trivial⟩⟩
      refine wz 4 ?_
      refine iz (fun c_99 c_99' => ?_) (fun c_99 c_99' => ?_)
      ·have ebv := bvL_step1 (a := (ls p n)[i]) hn1 hkl (v := stp p n (ls p n)[i] (ls p (n + 1))[k] + lefI p (n + 1) k) (Int.add_comm _ _) (.inr (of_decide_eq_true c_99))
       refine wz 5 ?_
       exact ⟨⟨k + 1, .inr hn1, by omega⟩, by simp only; omega, Sub.slots ⟨(by exact less_int ebv.symm), jz, jz, jz, jz, jz, jz, trivial⟩⟩
      have hk1 : 0 < k := by (rcases Nat.eq_zero_or_pos k with q | q; (have := bvL_neg (a := (ls p n)[i]) hn1 q; omega); exact q)
      have ebv := bvL_step2 (a := (ls p n)[i]) hkl (v := stp p n (ls p n)[i] (ls p (n + 1))[k] + lefI p (n + 1) k) (Int.add_comm _ _) hk1 (of_decide_eq_false c_99)
      refine wz 3 ?_
      exact ⟨⟨k + 1, .inr hn1, by omega⟩, by simp only; omega, Sub.slots ⟨(by exact less_int ebv.symm), jz, jz, jz, jz, jz, jz, trivial⟩⟩
     obtain rfl : k = (ls p (n + 1)).length := by omega
     have ebv : bvL p n (ls p n)[i] (ls p (n + 1)).length = lefI p n i := bvL_all hn1 hil (List.length_pos_iff.2 (hA _ hn1))
     have eS : ((lrow p n).take (i + 1)).map (fun x => [I x]) = ((lrow p n).take i).map (fun x => [I x]) ++ [[I (lefI p n i)]] := by rw [lrow_succ hil, List.map_append]; rfl
     have eP : (((rcL p p.scs.length (n + 1)).set n (.own 3 1 (((lrow p n).take i).map fun x => [I x]))).take (0 + n * 1) ++ [AV.own 3 1 ((((lrow p n).take i).map fun x => [I x]) ++ [[I (lefI p n i)]])] ++ ((rcL p p.scs.length (n + 1)).set n (.own 3 1 (((lrow p n).take i).map fun x => [I x]))).drop (0 + n * 1 + [AV.own 3 1 ((((lrow p n).take i).map fun x => [I x]) ++ [[I (lefI p n i)]])].length), ((((lrow p n).take i).map fun x => [I x]) ++ [[I (lefI p n i)]]).length) = ((rcL p p.scs.length (n + 1)).set n (.own 3 1 (((lrow p n).take (i + 1)).map fun x => [I x])), (((lrow p n).take (i + 1)).map fun x => [I x]).length) := by rw [store_at (by rw [List.length_set, rcL_len]; exact hnl), List.set_set, eS]
     refine wz 4 ?_
     refine sq_ev rfl (ev_index_msl (k := n) sl61.h jz jz rfl hnl) ?_
     refine sq_ev rfl (ev_load (v := .own 3 1 (((lrow p n).take i).map fun x => [I x])) jz rfl ty22.h (by rw [show 0 + n * 1 = n by omega, List.getElem?_set_self (by rw [rcL_len]; exact hnl)])) ?_
     refine wz 1 ?_
     refine sq_ev rfl (ev_less (ev_buildSlice (es := [[_]]) sf22.h rfl rfl rfl rfl) (Less.eq (b := .slx 1 [[I (lefI p n i)]]) (by rw [← ebv]))) ?_
     refine sq_append rfl sf22.h Tryz.underlying22 rfl rfl (less_slx _ _) (Nat.succ_pos _) (by simp; omega) (by simp; omega) ?_
     refine sq_ev rfl (ev_index_msl (k := n) sl61.h jz jz rfl hnl) ?_
     refine sq_store (j := 2) (off := 0 + n * 1) rfl jz jz rfl rfl ty22.h rfl (Nat.ble_eq_true_of_le (by rw [List.length_set, rcL_len]; omega)) ?_
     refine wz 3 ?_
     exact ⟨⟨i + 1, by omega⟩, by simp only; omega, sb 4 ⟨jz, jz, jz, jz, jz, trivial⟩ (hH := (congrArg (fun z : List AV × Nat => [_, _, AObj.cells z.1, AObj.tok z.2]) eP)) (h2 := (by simp [objsIn, AObj.inB, AV.inB, AV.inL, -List.map_take, row_in]))⟩
    have hn1 : n + 1 = p.scs.length := by omega
    obtain rfl : k = 0 := by omega
    have ebv : bvL p n (ls p n)[i] 0 = lefI p n i := bvL_last hn1 _
    have eS : ((lrow p n).take (i + 1)).map (fun x => [I x]) = ((lrow p n).take i).map (fun x => [I x]) ++ [[I (lefI p n i)]] := by rw [lrow_succ hil, List.map_append]; rfl
    have eP : (((rcL p p.scs.length (n + 1)).set n (.own 3 1 (((lrow p n).take i).map fun x => [I x]))).take (0 + n * 1) ++ [AV.own 3 1 ((((lrow p n).take i).map fun x => [I x]) ++ [[I (lefI p n i)]])] ++ ((rcL p p.scs.length (n + 1)).set n (.own 3 1 (((lrow p n).take i).map fun x => [I x]))).drop (0 + n * 1 + [AV.own 3 1 ((((lrow p n).take i).map fun x => [I x]) ++ [[I (lefI p n i)]])].length), ((((lrow p n).take i).map fun x => [I x]) ++ [[I (lefI p n i)]]).length) = ((rcL p p.scs.length (n + 1)).set n (.own 3 1 (((lrow p n).take (i + 1)).map fun x => [I x])), (((lrow p n).take (i + 1)).map fun x => [I x]).length) := by rw [store_at (by rw [List.length_set, rcL_len]; exact hnl), List.set_set, eS]
    refine wz 14 ?_
    refine sq_ev rfl (ev_index_msl (k := n) sl61.h jz jz rfl hnl) ?_
    refine sq_ev rfl (ev_load (v := .own 3 1 (((lrow p n).take i).map fun x => [I x])) jz rfl ty22.h (by rw [show 0 + n * 1 = n by omega, List.getElem?_set_self (by rw [rcL_len]; exact hnl)])) ?_
    refine wz 1 ?_
    refine sq_ev rfl (ev_less (ev_buildSlice (es := [[_]]) sf22.h rfl rfl rfl rfl) (Less.eq (b := .slx 1 [[I (lefI p n i)]]) (by rw [← ebv]))) ?_
    refine sq_append rfl sf22.h Tryz.underlying22 rfl rfl (less_slx _ _) (Nat.succ_pos _) (by simp; omega) (by simp; omega) ?_
    refine sq_ev rfl (ev_index_msl (k := n) sl61.h jz jz rfl hnl) ?_
    refine sq_store (j := 2) (off := 0 + n * 1) rfl jz jz rfl rfl ty22.h rfl (Nat.ble_eq_true_of_le (by rw [List.length_set, rcL_len]; omega)) ?_
    refine wz 3 ?_
    exact ⟨⟨i + 1, by omega⟩, by simp only; omega, sb 4 ⟨jz, jz, jz, jz, jz, trivial⟩ (hH := (congrArg (fun z : List AV × Nat => [_, _, AObj.cells z.1, AObj.tok z.2]) eP)) (h2 := (by simp [objsIn, AObj.inB, AV.inB, AV.inL, -List.map_take, row_in]))⟩
   obtain rfl : i = (ls p n).length := by omega
   refine aw_sub (sub_less_at 2 n (l := ((rcL p p.scs.length (n + 1)).set n (.own 3 1 (((lrow p n).take (ls p n).length).map fun x => [I x])))) rfl (by rw [List.getElem?_set_self (by rw [rcL_len]; exact hnl)]) (less_own _ _ _)) ?_
   have eR : (((rcL p p.scs.length (n + 1)).set n (.own 3 1 (((lrow p n).take (ls p n).length).map fun x => [I x]))).set n (.sl 1 (((lrow p n).take (ls p n).length).map fun x => [I x]))) = rcL p p.scs.length n := by rw [List.set_set, ← lrow_len, List.take_length]; exact rcL_set hnl
   refine wz 3 ?_
   exact ⟨⟨n, by omega⟩, by simp only; omega, sb 3 ⟨(by exact less_int (prI_down n)), jz, jz, jz, trivial⟩ (hH := (congrArg (fun z => [_, _, AObj.cells z]) eR)) (h2 := (by simp [objsIn, AObj.inB, AV.inB, AV.inL, inL_rc]))⟩
  obtain rfl := prI_no (of_decide_eq_false c_32)
  refine aw_exit ?_
  refine aw_seq ?_
  refine aw_sub (sub_freeze (j := 2) (n := p.scs.length) (cap := p.scs.length) (sz := 1) (es := ((List.range p.scs.length).map fun i => [ints (lrow p i)])) (rest := []) (sl' := [(4, .sl 1 ((List.range p.scs.length).map (fun i => [hds (ls p i)]))), (6, .sl 1 ((List.range p.scs.length).map fun i => [ints (lrow p i)]))]) (by show some (AObj.cells (rcL p p.scs.length 0)) = _; rw [rcL_all]) (by simp) (fun q hq => by obtain ⟨i, _, rfl⟩ := List.mem_map.1 hq; rfl) (fun q hq => ?_) (FzH.same _ (by decide) (FzH.same _ (by decide) (FzH.dead _ rfl (FzH.nil _))))) ?_
  ·simp only [List.mem_cons, List.not_mem_nil, or_false] at hq; rcases hq with rfl | rfl; exact Fz.same _; exact Fz.frozen
  refine nz ?_
  refine wz 4 ?_
  exact retQ_pure (v := .tup [.sl _ _, .sl _ _]) rfl rfl (Less.eq (by simp))
end Go.Proofs.YtfmpabgblbbcdaaGreatDoor
namespace Go.Proofs.YtfmpabgblbbcdaaGreatDoor
open Go Go.Ab Ni St
open Hd hiding sz
instance en63 : EnT Tryz.prog 63 := ⟨Ent.of Tryz.func63 (by kernel_rfl) rfl⟩
def prevL (p : Ply) (n : Nat) : List Int := (pick p n).getD (n - 1) []
def bW (p : Ply) (n i : Nat) : Int × Int := if i = 0 then (-1, 0) else bstK (ways p (prevL p n) n (ls p n).length) (i - 1)
theorem bW_0 (p : Ply) (n : Nat) : bW p n 0 = (-1, 0) := rfl
theorem bW_step1 {p : Ply} {n i : Nat} (hi : i < (ls p n).length) (h : i = 0 ∨ wayV p (prevL p n) n i < (bW p n i).2) : bW p n (i + 1) = ((i : Int), wayV p (prevL p n) n i) := by
  unfold bW; rw [if_neg (by omega), Nat.add_sub_cancel]
  cases i with
  | zero => rw [bstK, ways_get hi]
  | succ j =>
    unfold bW at h; rw [if_neg (by omega), Nat.add_sub_cancel] at h
    rw [bstK, ways_get hi, if_pos (by rcases h with h | h; omega; exact h)]
theorem bW_step2 {p : Ply} {n i : Nat} (hi : i < (ls p n).length) (h0 : 0 < i) (h : ¬ wayV p (prevL p n) n i < (bW p n i).2) : bW p n (i + 1) = bW p n i := by
  obtain ⟨j, rfl⟩ : ∃ j, i = j + 1 := ⟨i - 1, by omega⟩
  unfold bW at h ⊢; rw [if_neg (by omega), Nat.add_sub_cancel] at h ⊢
  rw [if_neg (by omega), Nat.add_sub_cancel, bstK, ways_get hi, if_neg h]
theorem bW_all {p : Ply} {n : Nat} (h : 0 < (ls p n).length) : bW p n (ls p n).length = bestW p (prevL p n) n := by unfold bW bestW; rw [if_neg (by omega)]
theorem bW_neg {p : Ply} {n i : Nat} (hi : i ≤ (ls p n).length) (h : (bW p n i).1 < 0) : i = 0 := by
  rcases Nat.eq_zero_or_pos i with q | q
  · exact q
  · exfalso
    unfold bW at h; rw [if_neg (by omega)] at h
    obtain ⟨j, h1, h2, _⟩ := bstK_ix (ways p (prevL p n) n (ls p n).length) (i - 1)
    rw [h2, ways_get (by omega)] at h; simp at h; omega
theorem way_0 (p : Ply) (i : Nat) : wayV p (prevL p 0) 0 i = lefI p 0 i := by unfold wayV; simp
theorem way_s {p : Ply} {m i : Nat} (hi : i < (ls p (m + 1)).length) : wayV p (prevL p (m + 1)) (m + 1) i = lefI p (m + 1) i + stp p m ((pick p (m + 1))[m]'(by rw [pick_len]; omega)) (ls p (m + 1))[i] := by
  unfold wayV prevL; rw [if_neg (by omega), Nat.add_sub_cancel, getD_at (by rw [pick_len]; omega), getD_at hi]
theorem way_bd {p : Ply} (gP : PlB p) (hA : ∀ i, i < p.scs.length → ls p i ≠ []) {n i : Nat} (hn : n < p.scs.length) : 0 ≤ wayV p (prevL p n) n i ∧ wayV p (prevL p n) n i ≤ 30 := by
  have h1 := lefI_bd gP hA i hn
  unfold wayV
  split
  · omega
  · have := turns_bd gP (n := n - 1) (by omega) (prevL p n) ((ls p n).getD i []); omega
def totK (p : Ply) (n : Nat) : Int := if n = 0 then 0 else totP p
theorem tot_first (p : Ply) (h : 0 < (ls p 0).length) : (bW p 0 (ls p 0).length).2 = totP p := by rw [bW_all h]; rfl
theorem rplan_pure {p : Ply} (gP : PlB p) (hA : ∀ i, i < p.scs.length → ls p i ≠ []) : APure Tryz.prog 63 [plA p] (.tup [hds (pick p p.scs.length), I (totP p)]) := by
  refine ap Tryz.func63 (fun e0 he0 => ?_)
  refine vz 3 ?_
  refine sq_nil ?_
  refine aw_seq ?_
  have hns := gP.ns
  refine wz 1 ?_
  refine kz az (rrest_pure gP hA) ?_
  refine vz 8 ?_
  refine sq_nil ?_
  refine aw_block ?_
  refine aw_sub (sub_token 6 1 jz) ?_
  refine aw_loopk (ι := { k : Nat // k ≤ p.scs.length }) [1, 4, 5] (fun i => [(8, I i.1), (6, .own 1 1 ((pick p i.1).map fun h => [ints h])), (7, I (totK p i.1))]) (fun H i => H.set 1 (.tok (((pick p i.1)).map fun h => [ints h]).length)) (fun i => p.scs.length - i.1) (⟨0, Nat.zero_le _⟩) ⟨jz, jz, jz, jz, jz, jz, trivial⟩ rfl ?_
  rintro ⟨n, hn⟩
  refine nz ?_
  have hpl := pick_len p n
  refine wz 2 ?_
  refine sq_ev rfl (ev_less (ev_len_map sl106.h (jz)) (Less.eq (b := I p.scs.length) (by simp))) ?_
  refine wz 1 ?_
  refine iz (fun c_21 c_21' => ?_) (fun c_21 c_21' => ?_)
  ·have hnl : n < p.scs.length := by omega
   have hpos : 0 < (ls p n).length := List.length_pos_iff.2 (hA n hnl)
   refine wz 3 ?_
   refine aw_loopk (ι := { i : Nat // i ≤ (ls p n).length }) [1, 4, 5, 6, 7, 8] (fun y => [(9, I (bW p n y.1).1), (10, I (bW p n y.1).2), (11, I y.1)]) (fun H y => H) (fun y => (ls p n).length - y.1) (⟨0, Nat.zero_le _⟩) ⟨jz, jz, jz, jz, jz, jz, jz, jz, jz, trivial⟩ rfl ?_
   rintro ⟨i, hi⟩
   refine nz ?_
   have hal : (ls p n).length ≤ 1296 := arr_len gP (sc_B gP hnl) true
   refine wz 3 ?_
   refine sq_ev rfl (ev_less (ev_index_map (k := n) (xs := List.range p.scs.length) sl106.h jz jz (by first | omega | simp) (by simp; omega)) (Less.eq (b := .iptr [hds (ls p (n))]) (by simp))) ?_
   refine wz 3 ?_
   refine iz (fun c_30 c_30' => ?_) (fun c_30 c_30' => ?_)
   ·have hil : i < (ls p n).length := by omega
    have hwb := way_bd gP hA (i := i) hnl
    have hlb := lefI_bd gP hA i hnl
    refine wz 2 ?_
    refine sq_ev rfl (ev_less (ev_index_map (k := n) (xs := List.range p.scs.length) sl61.h jz jz (by first | omega | simp) (by simp; omega)) (Less.eq (b := .iptr [ints (lrow p (n))]) (by simp))) ?_
    refine wz 2 ?_
    refine sq_ev rfl (ev_less (ev_index_map (k := i) (xs := lrow p (n)) sl22.h jz jz rfl (by rw [lrow_len]; exact hil)) (Less.eq (b := .iptr [I (lefI p (n) i)]) (by rw [lrow_get hil]))) ?_
    refine wz 4 ?_
    refine iz (fun c_41 c_41' => ?_) (fun c_41 c_41' => ?_)
    ·obtain ⟨m, rfl⟩ : ∃ m, n = m + 1 := ⟨n - 1, by omega⟩
     have htb := turns_bd gP (n := m) (by omega) ((pick p (m + 1))[m]'(by rw [pick_len]; omega)) (ls p (m + 1))[i]
     have eW := (way_s (p := p) (m := m) (i := i) hil).symm
     refine aw_draw 18 mo (by kernel_rfl) ?_
     refine dz 7 ?_
     refine dr_ev rfl (ev_index_map (k := m) (xs := pick p (m + 1)) sl61.h (less_own _ _ _) jz (by omega) (by rw [pick_len]; omega)) ?_
     refine dz 3 ?_
     refine dr_ev rfl (ev_less (ev_index_map (k := m + 1) (xs := List.range p.scs.length) sl106.h jz jz (by first | omega | simp) (by simp; omega)) (Less.eq (b := .iptr [hds (ls p (m + 1))]) (by simp))) ?_
     refine dz 2 ?_
     refine dr_ev rfl (ev_index_map (k := i) (xs := ls p (m + 1)) sl61.h jz jz rfl hil) ?_
     refine dz 1 ?_
     refine dr_ev rfl (ev_call en125.h jz (rstep_pure gP (n := m) (by omega) (mem_arr.1 (pick_in (show m < m + 1 by omega) (hA m (by omega)))).1 (mem_arr.1 (List.getElem_mem hil)).1) ⟨jz, (by exact less_int (by omega)), jz, jz, trivial⟩) ?_
     refine dz 1 ?_
     refine wz 4 ?_
     refine sz 62 (fun g14_2 g14_2' => ?_) (fun g14_2 g14_2' => ?_)
     ·have i0 := bW_neg hi (of_decide_eq_true g14_2)
      have eX := bW_step1 hil (.inl i0)
      have eX1 : (i : Int) = _ := (congrArg Prod.fst eX).symm
      have eX2 := eW.trans (congrArg Prod.snd eX).symm
      refine wz 12 ?_
      exact ⟨⟨i + 1, by omega⟩, by simp only; omega, Sub.slots ⟨(by exact less_int eX1), (by exact less_int eX2), jz, jz, jz, jz, jz, jz, jz, trivial⟩⟩
     refine wz 4 ?_
     refine iz (fun c_66 c_66' => ?_) (fun c_66 c_66' => ?_)
     ·have eX := bW_step1 hil (.inr (by rw [← eW]; exact of_decide_eq_true c_66))
      have eX1 : (i : Int) = _ := (congrArg Prod.fst eX).symm
      have eX2 := eW.trans (congrArg Prod.snd eX).symm
      refine wz 7 ?_
      exact ⟨⟨i + 1, by omega⟩, by simp only; omega, Sub.slots ⟨(by exact less_int eX1), (by exact less_int eX2), jz, jz, jz, jz, jz, jz, jz, trivial⟩⟩
     have i0 : 0 < i := by (rcases Nat.eq_zero_or_pos i with q | q; (subst q; rw [bW_0] at g14_2'; exact absurd (show (-1 : Int) < 0 by omega) g14_2'); exact q)
     have eX := bW_step2 hil i0 (by rw [← eW]; exact of_decide_eq_false c_66)
     have eX1 := (congrArg Prod.fst eX).symm
     have eX2 := (congrArg Prod.snd eX).symm
     refine wz 3 ?_
     exact ⟨⟨i + 1, by omega⟩, by simp only; omega, Sub.slots ⟨(by exact less_int eX1), (by exact less_int eX2), jz, jz, jz, jz, jz, jz, jz, trivial⟩⟩
    obtain rfl : n = 0 := by omega
    have eW := (way_0 p i).symm
    refine wz 3 ?_
    refine sz 62 (fun g14_2 g14_2' => ?_) (fun g14_2 g14_2' => ?_)
    ·have i0 := bW_neg hi (of_decide_eq_true g14_2)
     have eX := bW_step1 hil (.inl i0)
     have eX1 : (i : Int) = _ := (congrArg Prod.fst eX).symm
     have eX2 := eW.trans (congrArg Prod.snd eX).symm
     refine wz 12 ?_
     exact ⟨⟨i + 1, by omega⟩, by simp only; omega, Sub.slots ⟨(by exact less_int eX1), (by exact less_int eX2), jz, jz, jz, jz, jz, jz, jz, trivial⟩⟩
    refine wz 4 ?_
    refine iz (fun c_66 c_66' => ?_) (fun c_66 c_66' => ?_)
    ·have eX := bW_step1 hil (.inr (by rw [← eW]; exact of_decide_eq_true c_66))
     have eX1 : (i : Int) = _ := (congrArg Prod.fst eX).symm
     have eX2 := eW.trans (congrArg Prod.snd eX).symm
     refine wz 7 ?_
     exact ⟨⟨i + 1, by omega⟩, by simp only; omega, Sub.slots ⟨(by exact less_int eX1), (by exact less_int eX2), jz, jz, jz, jz, jz, jz, jz, trivial⟩⟩
    have i0 : 0 < i := by (rcases Nat.eq_zero_or_pos i with q | q; (subst q; rw [bW_0] at g14_2'; exact absurd (show (-1 : Int) < 0 by omega) g14_2'); exact q)
    have eX := bW_step2 hil i0 (by rw [← eW]; exact of_decide_eq_false c_66)
    have eX1 := (congrArg Prod.fst eX).symm
    have eX2 := (congrArg Prod.snd eX).symm
    refine wz 3 ?_
    exact ⟨⟨i + 1, by omega⟩, by simp only; omega, Sub.slots ⟨(by exact less_int eX1), (by exact less_int eX2), jz, jz, jz, jz, jz, jz, jz, trivial⟩⟩
   obtain rfl : i = (ls p n).length := by omega
   obtain ⟨j, hj2, hbw, _⟩ := bestW_ix (p := p) (n := n) (prevL p n) hpos
   have hba := bW_all hpos
   have hj1 : (bW p n (ls p n).length).1 = (j : Int) := by rw [hba, hbw]
   have eS : (pick p (n + 1)).map (fun h => [ints h]) = (pick p n).map (fun h => [ints h]) ++ [[ints (ls p n)[j]]] := by rw [pick_succ, List.map_append, show bestW p ((pick p n).getD (n - 1) []) n = ((j : Int), wayV p (prevL p n) n j) from hbw, Int.toNat_natCast, getD_at hj2]; rfl
   refine wz 2 ?_
   refine iz (fun c_70 c_70' => ?_) (fun c_70 c_70' => ?_)
   ·have hn0 : n = 0 := by omega
    have eT : (bW p n (ls p n).length).2 = totK p (n + 1) := by (subst hn0; exact (tot_first p hpos).trans (by unfold totK; rw [if_neg (by omega)]))
    refine wz 5 ?_
    refine sq_ev rfl (ev_less (ev_index_map (k := n) (xs := List.range p.scs.length) sl106.h jz jz (by first | omega | simp) (by simp; omega)) (Less.eq (b := .iptr [hds (ls p (n))]) (by simp))) ?_
    refine wz 2 ?_
    refine sq_ev rfl (ev_index_map (k := j) (xs := ls p n) sl61.h jz jz hj1 hj2) ?_
    refine wz 1 ?_
    refine sq_ev rfl (ev_buildSlice (es := [[_]]) sf61.h rfl rfl rfl rfl) ?_
    first | refine sq_append rfl sf61.h Tryz.underlying61 rfl rfl jz (Nat.succ_pos _) (by simp; omega) (by simp; omega) ?_ | refine sq_append rfl sf61.h Tryz.underlying61 rfl rfl (less_slx _ _) (Nat.succ_pos _) (by simp; omega) (by simp; omega) ?_
    refine wz 4 ?_
    exact ⟨⟨n + 1, by omega⟩, by simp only; omega, sb 2 ⟨jz, Less.eq (by rw [eS] <;> rfl), (by exact less_int eT), jz, jz, jz, trivial⟩ (hH := (congrArg (fun n => [_, AObj.tok n]) (congrArg List.length eS.symm)))⟩
   have eT : totK p n = totK p (n + 1) := by unfold totK; rw [if_neg (by omega), if_neg (by omega)]
   refine wz 3 ?_
   refine sq_ev rfl (ev_less (ev_index_map (k := n) (xs := List.range p.scs.length) sl106.h jz jz (by first | omega | simp) (by simp; omega)) (Less.eq (b := .iptr [hds (ls p (n))]) (by simp))) ?_
   refine wz 2 ?_
   refine sq_ev rfl (ev_index_map (k := j) (xs := ls p n) sl61.h jz jz hj1 hj2) ?_
   refine wz 1 ?_
   refine sq_ev rfl (ev_buildSlice (es := [[_]]) sf61.h rfl rfl rfl rfl) ?_
   first | refine sq_append rfl sf61.h Tryz.underlying61 rfl rfl jz (Nat.succ_pos _) (by simp; omega) (by simp; omega) ?_ | refine sq_append rfl sf61.h Tryz.underlying61 rfl rfl (less_slx _ _) (Nat.succ_pos _) (by simp; omega) (by simp; omega) ?_
   refine wz 4 ?_
   exact ⟨⟨n + 1, by omega⟩, by simp only; omega, sb 2 ⟨jz, Less.eq (by rw [eS] <;> rfl), (by exact less_int eT), jz, jz, jz, trivial⟩ (hH := (congrArg (fun n => [_, AObj.tok n]) (congrArg List.length eS.symm)))⟩
  obtain rfl : n = p.scs.length := by omega
  refine wz 4 ?_
  exact retQ_pure (v := .tup [.own _ _ _, .raw _]) rfl rfl (less_tup ⟨less_own _ _ _, (by exact less_int (by unfold totK; rw [if_neg (by omega)])), trivial⟩)
end Go.Proofs.YtfmpabgblbbcdaaGreatDoor
namespace Go.Proofs.YtfmpabgblbbcdaaGreatDoor
open Go Go.Ab Ni St
open Hd hiding sz
instance en62 : EnT Tryz.prog 62 := ⟨Ent.of Tryz.func62 (by kernel_rfl) rfl⟩
theorem slim_t {L : List (List Int)} (h : slB L = true) : APure Tryz.prog 60 [hds L] (B true) := by have q := slim_pure L; rw [h] at q; exact q
theorem slim_f {L : List (List Int)} (h : slB L = false) : APure Tryz.prog 60 [hds L] (B false) := by have q := slim_pure L; rw [h] at q; exact q
theorem chg_f {p : Ply} {L : List (List Int)} (hs : shB p = true) (hr : plOK p = true) (hL : slB L = true) (h : plnOK p L = false) : APure Tryz.prog 62 [plA p, hds L] (.tup [I 0, I 2]) := by
  by_cases hl : L.length = p.scs.length
  · exact xchg_b3 (shB_len hs).1 (shB_len hs).2.1 (shB_len hs).2.2.1 (shB_len hs).2.2.2 L (slB_len hL).1 (slB_len hL).2 hr hl h
  · exact xchg_b2 (shB_len hs).1 (shB_len hs).2.1 (shB_len hs).2.2.1 (shB_len hs).2.2.2 L (slB_len hL).1 (slB_len hL).2 hr hl
theorem chg_t {p : Ply} {L : List (List Int)} (hs : shB p = true) (hr : plOK p = true) (hL : slB L = true) (h : plnOK p L = true) : APure Tryz.prog 62 [plA p, hds L] (.tup [I (chg p L), I 0]) := xchg_ok (shB_len hs).1 (shB_len hs).2.1 (shB_len hs).2.2.1 (shB_len hs).2.2.2 L (slB_len hL).1 (slB_len hL).2 hr (pln_get h).1 h
theorem pln_t {p : Ply} {L : List (List Int)} (hr : plOK p = true) (hL : slB L = true) (h : plnOK p L = true) : APure Tryz.prog 65 [plA p, hds L] (B true) := by have q := risplan_pure (plOK_B hr) L (slB_len hL).1 (slB_len hL).2; rw [h] at q; exact q
theorem pln_f {p : Ply} {L : List (List Int)} (hr : plOK p = true) (hL : slB L = true) (h : plnOK p L = false) : APure Tryz.prog 65 [plA p, hds L] (B false) := by have q := risplan_pure (plOK_B hr) L (slB_len hL).1 (slB_len hL).2; rw [h] at q; exact q
theorem fails_ls {p : Ply} (h : failsAt p = none) : ∀ i, i < p.scs.length → ls p i ≠ [] := fun i hi e => by
  have := fails_none h i hi
  rw [can_nil e] at this; cases this
theorem pick_bd {p : Ply} (gP : PlB p) (hA : ∀ i, i < p.scs.length → ls p i ≠ []) : ∀ l ∈ pick p p.scs.length, l.length ≤ 1000000 := fun l hl => by
  obtain ⟨i, hi, rfl⟩ := List.getElem_of_mem hl
  rw [pick_len] at hi
  have := (mem_arr.1 (pick_in hi (hA i hi))).1
  have := (sc_B gP hi).r4; omega
theorem law15_a {p : Ply} {L : List (List Int)} (hs : shB p = false) : APure Tryz.prog 15 [plA p, hds L] (B true) := by
  refine ap Tryz.func15 (fun e0 he0 => ?_)
  refine wz 3 ?_
  refine kz az (short_f hs) ?_
  refine wz 7 ?_
  refine kz az (known_pure) ?_
  refine wz 1 ?_
  exact rz rfl jz
theorem law15_b {p : Ply} {L : List (List Int)} (hs : shB p = true) (hL : slB L = false) : APure Tryz.prog 15 [plA p, hds L] (B true) := by
  refine ap Tryz.func15 (fun e0 he0 => ?_)
  refine wz 3 ?_
  refine kz az (short_t hs) ?_
  refine wz 3 ?_
  refine ky az (slim_f hL) ?_
  refine wz 3 ?_
  refine kz az (known_pure) ?_
  refine wz 1 ?_
  exact rz rfl jz
theorem law15_c {p : Ply} {L : List (List Int)} (hs : shB p = true) (hL : slB L = true) (hr : plOK p = false) : APure Tryz.prog 15 [plA p, hds L] (B true) := by
  refine ap Tryz.func15 (fun e0 he0 => ?_)
  refine wz 3 ?_
  refine kz az (short_t hs) ?_
  refine wz 3 ?_
  refine ky az (slim_t hL) ?_
  refine wz 4 ?_
  refine kz az (xplan_b1 (shB_len hs).1 (shB_len hs).2.1 (shB_len hs).2.2.1 (shB_len hs).2.2.2 hr) ?_
  refine wz 9 ?_
  refine kz az (xchg_b1 (shB_len hs).1 (shB_len hs).2.1 (shB_len hs).2.2.1 (shB_len hs).2.2.2 L (slB_len hL).1 (slB_len hL).2 hr) ?_
  refine wz 6 ?_
  refine kz az (pl_f hs hr) ?_
  refine wz 22 ?_
  refine ky az (known_pure) ?_
  refine wz 2 ?_
  exact rz rfl jz
theorem law15_dt {p : Ply} {L : List (List Int)} (hs : shB p = true) (hL : slB L = true) (hr : plOK p = true) {n : Nat} (h : failsAt p = some n) (hp : plnOK p L = true) : APure Tryz.prog 15 [plA p, hds L] (B true) := by
  refine ap Tryz.func15 (fun e0 he0 => ?_)
  refine wz 3 ?_
  refine kz az (short_t hs) ?_
  refine wz 3 ?_
  refine ky az (slim_t hL) ?_
  refine wz 4 ?_
  refine kz az (xplan_no (shB_len hs).1 (shB_len hs).2.1 (shB_len hs).2.2.1 (shB_len hs).2.2.2 hr h) ?_
  refine wz 9 ?_
  refine kz az (chg_t hs hr hL hp) ?_
  refine wz 6 ?_
  refine kz az (pl_t hs hr) ?_
  refine wz 3 ?_
  refine kz az (rfail_s (plOK_B hr) h) ?_
  refine wz 1 ?_
  refine iz (fun c_60 c_60' => ?_) (fun c_60 c_60' => ?_)
  ·refine wz 14 ?_
   refine kz az (pln_t hr hL hp) ?_
   refine wz 8 ?_
   refine ky az (rchg_pure (plOK_B hr) hp) ?_
   refine wz 3 ?_
   refine sz 112 (fun g15_9 g15_9' => ?_) (fun g15_9 g15_9' => ?_)
   ·refine ky az (known_pure) ?_
    refine wz 2 ?_
    exact rz rfl jz
   exfalso
   simp at g15_9
  exfalso
  omega
theorem law15_et {p : Ply} {L : List (List Int)} (hs : shB p = true) (hL : slB L = true) (hr : plOK p = true) (h : failsAt p = none) (hp : plnOK p L = true) : APure Tryz.prog 15 [plA p, hds L] (B true) := by
  refine ap Tryz.func15 (fun e0 he0 => ?_)
  refine wz 3 ?_
  refine kz az (short_t hs) ?_
  refine wz 3 ?_
  refine ky az (slim_t hL) ?_
  refine wz 4 ?_
  refine kz az (xplan_ok (shB_len hs).1 (shB_len hs).2.1 (shB_len hs).2.2.1 (shB_len hs).2.2.2 hr h) ?_
  refine wz 9 ?_
  refine kz az (chg_t hs hr hL hp) ?_
  refine wz 6 ?_
  refine kz az (pl_t hs hr) ?_
  refine wz 3 ?_
  refine kz az (rfail_n (plOK_B hr) h) ?_
  refine wz 3 ?_
  refine kz az (rplan_pure (plOK_B hr) (fails_ls h)) ?_
  refine wz 10 ?_
  refine ky az (sames_t (by rw [pick_len]; exact (shB_len hs).2.2.1) (by rw [pick_len]; exact (shB_len hs).2.2.1) (pick_bd (plOK_B hr) (fails_ls h)) (pick_bd (plOK_B hr) (fails_ls h)) rfl) ?_
  refine wz 7 ?_
  refine iz (fun c_89 c_89' => ?_) (fun c_89 c_89' => ?_)
  ·exfalso
   simp at c_89
  refine wz 2 ?_
  refine kz az (pln_t hr hL hp) ?_
  refine wz 8 ?_
  refine ky az (rchg_pure (plOK_B hr) hp) ?_
  refine wz 3 ?_
  refine sz 112 (fun g15_9 g15_9' => ?_) (fun g15_9 g15_9' => ?_)
  ·refine ky az (known_pure) ?_
   refine wz 2 ?_
   exact rz rfl jz
  exfalso
  simp at g15_9
theorem law15_df {p : Ply} {L : List (List Int)} (hs : shB p = true) (hL : slB L = true) (hr : plOK p = true) {n : Nat} (h : failsAt p = some n) (hp : plnOK p L = false) : APure Tryz.prog 15 [plA p, hds L] (B true) := by
  refine ap Tryz.func15 (fun e0 he0 => ?_)
  refine wz 3 ?_
  refine kz az (short_t hs) ?_
  refine wz 3 ?_
  refine ky az (slim_t hL) ?_
  refine wz 4 ?_
  refine kz az (xplan_no (shB_len hs).1 (shB_len hs).2.1 (shB_len hs).2.2.1 (shB_len hs).2.2.2 hr h) ?_
  refine wz 9 ?_
  refine kz az (chg_f hs hr hL hp) ?_
  refine wz 6 ?_
  refine kz az (pl_t hs hr) ?_
  refine wz 3 ?_
  refine kz az (rfail_s (plOK_B hr) h) ?_
  refine wz 1 ?_
  refine iz (fun c_60 c_60' => ?_) (fun c_60 c_60' => ?_)
  ·refine wz 14 ?_
   refine kz az (pln_f hr hL hp) ?_
   refine wz 9 ?_
   refine ky az (known_pure) ?_
   refine wz 2 ?_
   exact rz rfl jz
  exfalso
  omega
theorem law15_ef {p : Ply} {L : List (List Int)} (hs : shB p = true) (hL : slB L = true) (hr : plOK p = true) (h : failsAt p = none) (hp : plnOK p L = false) : APure Tryz.prog 15 [plA p, hds L] (B true) := by
  refine ap Tryz.func15 (fun e0 he0 => ?_)
  refine wz 3 ?_
  refine kz az (short_t hs) ?_
  refine wz 3 ?_
  refine ky az (slim_t hL) ?_
  refine wz 4 ?_
  refine kz az (xplan_ok (shB_len hs).1 (shB_len hs).2.1 (shB_len hs).2.2.1 (shB_len hs).2.2.2 hr h) ?_
  refine wz 9 ?_
  refine kz az (chg_f hs hr hL hp) ?_
  refine wz 6 ?_
  refine kz az (pl_t hs hr) ?_
  refine wz 3 ?_
  refine kz az (rfail_n (plOK_B hr) h) ?_
  refine wz 3 ?_
  refine kz az (rplan_pure (plOK_B hr) (fails_ls h)) ?_
  refine wz 10 ?_
  refine ky az (sames_t (by rw [pick_len]; exact (shB_len hs).2.2.1) (by rw [pick_len]; exact (shB_len hs).2.2.1) (pick_bd (plOK_B hr) (fails_ls h)) (pick_bd (plOK_B hr) (fails_ls h)) rfl) ?_
  refine wz 7 ?_
  refine iz (fun c_89 c_89' => ?_) (fun c_89 c_89' => ?_)
  ·exfalso
   simp at c_89
  refine wz 2 ?_
  refine kz az (pln_f hr hL hp) ?_
  refine wz 9 ?_
  refine ky az (known_pure) ?_
  refine wz 2 ?_
  exact rz rfl jz
/-- **StemPlans.** -/
theorem law15 (p : Ply) (L : List (List Int)) : APure Tryz.prog 15 [plA p, hds L] (B true) := by
  cases hs : shB p with
  | false => exact law15_a hs
  | true =>
    cases hL : slB L with
    | false => exact law15_b hs hL
    | true =>
      cases hr : plOK p with
      | false => exact law15_c hs hL hr
      | true =>
        cases h : failsAt p with
        | none =>
          cases hp : plnOK p L with
          | true => exact law15_et hs hL hr h hp
          | false => exact law15_ef hs hL hr h hp
        | some n =>
          cases hp : plnOK p L with
          | true => exact law15_dt hs hL hr h hp
          | false => exact law15_df hs hL hr h hp
end Go.Proofs.YtfmpabgblbbcdaaGreatDoor
