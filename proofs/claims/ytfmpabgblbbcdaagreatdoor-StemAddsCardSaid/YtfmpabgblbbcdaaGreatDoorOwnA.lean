/-
  A part of the proof: conditions: none beyond each theorem's own.
-/
import Derived.Test.YtfmpabgblbbcdaaGreatDoorLogicA
import Derived.Test.YtfmpabgblbbcdaaGreatDoorLogicB
import Derived.Test.YtfmpabgblbbcdaaGreatDoorLogicC
import Derived.Deep.Slices
import Derived.OpenShut
import Derived.Carry
import Derived.Test.YtfmpabgblbbcdaaGreatDoorSpecA
import Derived.Test.YtfmpabgblbbcdaaGreatDoorLogicD
import Derived.Test.YtfmpabgblbbcdaaGreatDoorProg
import Derived.KernelRfl
import Derived.Lib.LaidTab
import Derived.Lib.ItoaNum
import Derived.Test.YtfmpabgblbbcdaaGreatDoorWalkD
import Derived.Test.YtfmpabgblbbcdaaGreatDoorWalkG
import Derived.Laws.IdiomStrings
import Derived.Laws.IdiomCopy
import Derived.Test.YtfmpabgblbbcdaaGreatDoorLogicE
import Derived.Test.YtfmpabgblbbcdaaGreatDoorShelf
import Derived.Test.YtfmpabgblbbcdaaGreatDoorWalkA
import Derived.Test.YtfmpabgblbbcdaaGreatDoorWalkB
import Derived.Test.YtfmpabgblbbcdaaGreatDoorWalkC
import Derived.Test.YtfmpabgblbbcdaaGreatDoorWalkE
import Derived.Test.YtfmpabgblbbcdaaGreatDoorWalkF
import Derived.Test.YtfmpabgblbbcdaaGreatDoorRow
set_option linter.all false
set_option maxRecDepth 100000
set_option maxHeartbeats 8000000
namespace Go.Ab
variable [Tabs]
theorem FW_room (r : Option Nat) (n : Nat) : (FW r).room n := fun _ h => by simp [FW] at h
variable {c : Ctx} {Q : AExit → St → Prop} {s : St}
end Go.Ab
namespace Go.Ab
variable [Tabs]
section tok
variable {c : Ctx} {ops : Array Oper} {Q : AExit → St → Prop} {rest : List Oper} {s : St} {i : Nat}
variable {d : Option Tmp} {t : TypeId} {p : String} {af : Array Edge}
theorem sq_append_new {x y : Operand} {st xt et et' : TypeId} {sz bytes : Nat} {es xs : List (List AV)} (hd : dOK c.nt d = true)
    (hf : SlFact c.P st et sz bytes) (hk : c.P.underlying xt = some (.slice et')) (hx : Less (s.op x) (.slx sz es)) (hy : Less (s.op y) (.sl sz xs))
    (hb : (es.length + xs.length) * bytes ≤ 140737488355328) (h63 : es.length + xs.length ≤ 9223372036854775807)
    (k : SeqWP c ops Q (i + 1) rest (St.put { s with H := s.H ++ [.tok (es ++ xs).length] } d (.own s.H.length sz (es ++ xs)))) : SeqWP c ops Q i (⟨d, .call ⟨.builtin .append, #[x, y], #[st, xt]⟩, t, p, af, none⟩ :: rest) s := by
  rw [List.length_append] at k
  refine sq_op fun e ac hs next hn' => ?_
  have hu := hx e _ (hs.op x)
  have hv := hy e _ (hs.op y)
  have hu' := hu
  rw [Rep] at hu'
  obtain ⟨a, len, hv1, hlen, hnil, hsz, hc⟩ := hu'
  refine ⟨about_FW _ _ _ _ _, ?_⟩
  show Oper.uponIn (FW c.r) 0 c.P _ ac next (lift c Q) (((Oper.semAt c.r ac.eval ⟨d, .call ⟨.builtin .append, #[x, y], #[st, xt]⟩, t, p, af, none⟩)).run c.P e.w)
  rw [semAt_of (by intro c h; cases h)]
  have hex : (execOp ac.eval ⟨d, .call ⟨.builtin .append, #[x, y], #[st, xt]⟩, t, p, af, none⟩).run c.P e.w = ((Builtin.append_ #[st, xt] t #[.slice a len len, ac.eval y]).run c.P e.w).andThen fun v w'' => .ok (.value v) w'' := by
    simp [execOp, resolve, invoke, builtin, hv1]
  rw [hex]
  subst hlen
  rcases Nat.eq_zero_or_pos xs.length with h0 | hpos
  · have : xs = [] := List.length_eq_zero_iff.1 h0
    subst this
    rw [run_append_nothing' hf hk hv (Nat.le_refl _)]
    obtain ⟨e', hw, hG, le, hH, hμ, hs'⟩ := sim_tok hs es.length
    have := Rep.mono le _ (less_slx _ _ _ _ hu)
    rw [hv1, Rep] at this
    obtain ⟨a', len', cap', q1, q2, q3, q4, q5, q6⟩ := this
    cases q1
    show next _ e.w
    rw [← hw]
    refine hn' _ e' _ k (hs'.put hd ?_)
    rw [Rep, List.append_nil]
    refine ⟨a, es.length, es.length, rfl, rfl, Nat.le_refl _, fun h => hnil h, hsz, q6, by rw [hH]; simp, ⟨es.length, by unfold Env.T; rw [hH]; simp [tokOf], Nat.le_refl _⟩, fun _ ad _ hlt => absurd hlt (Nat.lt_irrefl _)⟩
  · obtain ⟨e1, hw1, hG1, le1, hH1, hμ1, hs1⟩ := sim_tok hs 0
    have hlast : e1.H[s.H.length]? = some (.tok 0) := by rw [hH1]; simp
    have hTj : e1.T s.H.length = some 0 := by unfold Env.T; rw [hlast]; rfl
    have hjl : s.H.length < e1.H.length := by rw [hH1]; simp
    have hv' : Rep e1 (.sl sz xs) (ac.eval y) := Rep.mono le1 _ hv
    have hc' : ∀ ad, a = some ad → (es.length ≠ 0 → ad.spot = none) ∧ ElemsAt e1 es ad.block ad.off := fun ad h => ⟨(hc ad h).1, ElemsAt.mono le1 es (hc ad h).2⟩
    obtain ⟨cap', cs, w', hrun, hw, hst, hle2, hcs, hcells, hall⟩ := run_append_row (P := c.P) (t := t) (cap := es.length) hs1.ok hf hk rfl hnil hsz hc' hv' (by omega) hb h63
    have hj : ({ s with H := s.H ++ [.tok 0] } : St).H[s.H.length]? = some (.tok 0) := by simp
    obtain ⟨hsim, hle'⟩ := hs1.grew (j := s.H.length) (b := e1.w.heap.size) (n := 0) (n' := es.length + xs.length) (g := (es.length + xs.length) * sz) (w' := w') hst hj (by omega) (.inr rfl) (by rw [hs1.ok.fresh _ (Nat.le_refl _)]; omega) (by simp [hw]) (by simp [hw])
      (fun b' hb' hne => by rw [hw, Array.getElem?_push, if_neg hne]) (fun m hmlt => by rw [hs1.ok.fresh _ (Nat.le_refl _)] at hmlt; omega) (fun b' hb' h => by simp [hw] at hb'; omega)
    rw [← hw1, hrun]
    have hset : (s.H ++ [AObj.tok 0]).set s.H.length (.tok (es.length + xs.length)) = s.H ++ [.tok (es.length + xs.length)] := by
      rw [List.set_append_right _ _ (Nat.le_refl _)]; simp
    have hsim' : Sim c { s with H := s.H ++ [.tok (es.length + xs.length)] } (e1.grew s.H.length e1.w.heap.size (es.length + xs.length) ((es.length + xs.length) * sz) w') ac := by
      rw [← hset]; exact hsim
    refine hn' _ _ _ k (hsim'.put hd ?_)
    rw [Rep]
    refine ⟨_, _, _, rfl, by simp, hle2, (fun h => by cases h), hall, fun ad had => ?_, by simpa [Env.grew] using hjl, ⟨es.length + xs.length, by rw [Env.grew_T hjl, if_pos rfl], by simp⟩, fun _ ad had hlt => ?_⟩
    · simp only [Option.some.injEq] at had; subst had
      refine ⟨fun _ => rfl, ElemsAt.flat.2 ?_⟩
      have hxt : Ext e1 (e1.row ((es.length + xs.length) * sz) w') := Env.row_ext hs1.ok hw hst
      have le3 : (e1.row ((es.length + xs.length) * sz) w').Le (e1.grew s.H.length e1.w.heap.size (es.length + xs.length) ((es.length + xs.length) * sz) w') := by
        have hT : ∀ i, (e1.row ((es.length + xs.length) * sz) w').T i = e1.T i := fun i => rfl
        refine ⟨by simp [Env.grew, Env.row], fun i hi ht => ?_, fun b' off ho => ⟨ho, rfl⟩, fun i m ht => ?_⟩
        · rw [hT] at ht
          have hij : i ≠ s.H.length := fun h => by subst h; rw [hTj] at ht; cases ht
          rw [Env.grew_T hjl, if_neg hij]; exact ⟨ht, fun _ hb => by simpa [Env.grew, hij, Env.row] using hb⟩
        · rw [hT] at ht
          by_cases hij : i = s.H.length
          · subst hij
            have : m = 0 := by rw [hTj] at ht; exact (Option.some.inj ht).symm
            subst this
            exact ⟨_, by rw [Env.grew_T hjl, if_pos rfl], by omega, fun h => by omega⟩
          · exact ⟨m, by rw [Env.grew_T hjl, if_neg hij]; exact ht, Nat.le_refl _, fun _ => ⟨by simp [Env.grew, hij, Env.row], fun b' cs t _ hh => ⟨rfl, cs, hh, rfl⟩⟩⟩
      exact CellsAt.mono le3 _ hcells
    · simp only [Option.some.injEq] at had; subst had
      exact ⟨by simp [Env.grew], by simp [Env.grew], cs, et, by simp [Env.grew, hw], by simp [hcs]⟩
end tok
section eff
variable {c : Ctx} {Q : AExit → St → Prop} {H : List AObj} {df : List ADef} {ρ : Operand → AV} {d : Option Tmp} {t : TypeId} {p : String} {af : Array Edge}
theorem eff_append_new {x y : Operand} {st xt et et' : TypeId} {sz bytes : Nat} {es xs : List (List AV)} (hd : dOK c.nt d = true)
    (hf : SlFact c.P st et sz bytes) (hk : c.P.underlying xt = some (.slice et')) (hx : Less (ρ x) (.slx sz es)) (hy : Less (ρ y) (.sl sz xs))
    (hb : (es.length + xs.length) * bytes ≤ 140737488355328) (h63 : es.length + xs.length ≤ 9223372036854775807) :
    Eff c Q ⟨d, .call ⟨.builtin .append, #[x, y], #[st, xt]⟩, t, p, af, none⟩ H df ρ (.own H.length sz (es ++ xs)) (H ++ [.tok (es ++ xs).length]) :=
  eff_of rfl fun s hH hop Q k => by
    subst hH
    exact sq_append_new hd hf hk (by rw [hop x (by simp [Op.operands, Call.operands])]; exact hx) (by rw [hop y (by simp [Op.operands, Call.operands])]; exact hy) hb h63 k
end eff
end Go.Ab
namespace Go.Ab
open Go.ChangeShapes Go.WideShapes
variable [Tabs]
theorem env0_ok {w : World} (h : Tabs.is w) (hb : ∀ b, Tabs.blk b → b < w.heap.size) : EnvOK (env0 w) :=
  ⟨fun b hb => by have hb' : w.heap.size ≤ b := hb
                  have : w.heap[b]? = none := by simpa using hb'
                  simp [env0, this], fun i o h => by simp [env0] at h, fun i j b hi => by simp [env0] at hi, fun i b hi => by simp [env0] at hi, h, fun b hk => ⟨hb b hk, fun i hi => by simp [env0] at hi⟩⟩
section
variable {H : Type} {enc : TypeId × Value → H} {P : Program} {w : World} {base : Nat} {spare : Nat → Bool} {held : Bool}
theorem trodAll_stays (hl : laidOutB P = true) {W W' : World} (hheap : ∀ b, b < W.heap.size → W'.heap[b]? = W.heap[b]?) {sp' : Nat → Bool} :
    ∀ {ts : List TypeId} {vs : List Value} {ds : List (DataW H)} {ps : List MemPlace}, (∀ t ∈ ts, P.readableRec t = true ∧ t < P.types.size) → DataW.TrodAll enc P W base (fun _ => true) true ts vs ds ps → (∀ p ∈ ps, p.block < W.heap.size) → (∀ p ∈ ps, sp' p.block = true) →
      DataW.TrodAll enc P W' base sp' true ts vs ds ps
  | [], _, _, _, _, h, _, _ => by
    obtain ⟨rfl, rfl, rfl⟩ := trodAll_nil h
    exact trodAll_mk0
  | t :: ts, _, _, _, ht, h, hlt, hs => by
    obtain ⟨v, vs1, d, ds1, a, b, rfl, rfl, rfl, h1, h2⟩ := trodAll_cons h
    refine trodAll_cons_mk (WideElems.Trod_stays hl (ht t (by simp)).1 (ht t (by simp)).2 h1 (fun p hp => ?_) (fun p hp => hs p (by simp [hp]))) (trodAll_stays hl hheap (fun u hu => ht u (List.mem_cons_of_mem _ hu)) h2 (fun p hp => hlt p (by simp [hp])) (fun p hp => hs p (by simp [hp])))
    have hb := hheap p.block (hlt p (by simp [hp]))
    cases p with
    | cell b o => exact cell?_of_heap hb
    | map b => exact hb
/-- **What a law's row asks of a call that returns true and leaves what it met.** -/
theorem post_true {f : Func} {s : ChangeSpec} {W W' : World} {args : Array Value} {ds gs : List (DataW H)} {before : List MemPlace} {tb : TypeId} (hl : laidOutB P = true) (hread : ∀ t ∈ f.params.toList, P.readableRec t = true ∧ t < P.types.size)
    (hres : f.resultTypes = #[tb]) (htb : P.underlying tb = some .bool) (hvars : s.vars = []) (hspec : (s.fn H ds).results = [.lit (.bool true)] ∧ (s.fn H ds).args = ds ∧ (s.fn H ds).vars = [])
    (hW : DataW.Whole enc P f.params.toList s.vars false W args.toList ds gs before) (hheap : ∀ b, b < W.heap.size → W'.heap[b]? = W.heap[b]?) (hst : Still W W') :
    s.post enc P f false true false false W args (.bool true) W' := by
  have hlt := hW.lt
  have hW0 := hW
  obtain ⟨p, q, h1, h2, rfl, _, _⟩ := hW
  rw [hvars] at h2
  obtain ⟨rfl, rfl⟩ := trodVars_none h2
  simp only [List.append_nil] at hlt
  obtain ⟨e1, e2, e3⟩ := hspec
  refine ⟨ds, [], p ++ [], [], p, [], hW0, ?_, ?_, ?_, ?_, fun h => by cases h⟩
  · rw [List.append_nil, e1, hres]
    exact trodAll_cons_mk (RowKit.shut_bool htb _) trodAll_mk0
  · rw [List.append_nil, e2]
    exact trodAll_stays hl hheap hread h1 hlt (fun p hp => by simpa using hlt p hp)
  · rw [List.append_nil, e3, hvars]; rfl
  · refine ⟨hst.1, hst.2, fun i hi => ?_⟩
    rw [hheap i hi]
    split <;> simp_all
theorem APure.law {f : FuncId} {args : List AV} {W : World} {vs : Array Value} (hc : APure P f args (.raw (.bool true))) (ht : Tabs.is W) (hb : ∀ b, Tabs.blk b → b < W.heap.size) (hr : RepL (env0 W) args vs.toList) :
    Calls P f vs W fun x W' => x = .returned (.bool true) ∧ (∀ b, b < W.heap.size → W'.heap[b]? = W.heap[b]?) ∧ Still W W' := by
  refine ((hc (env0 W) vs (env0_ok ht hb) hr).calls (fun k => FW_room none k)).mono ?_
  rintro x w' ⟨u, e', rfl, rfl, hx, hu⟩
  rw [Rep] at hu; subst hu
  exact ⟨rfl, hx.heap, hx.still⟩
end
end Go.Ab
namespace St
open Ni (inn)
open Hd (every getD_at mem_every)
def handsK (p : Ply) (x : Scn) (k : Nat) : Int := max 0 (x.knocks - 1) + ((x.moved.take k).map fun f => (fg p f).hands).sum
theorem handsK_0 (p : Ply) (x : Scn) : handsK p x 0 = max 0 (x.knocks - 1) := by simp [handsK]
theorem handsK_succ {p : Ply} {x : Scn} {k : Nat} (h : k < x.moved.length) : handsK p x (k + 1) = handsK p x k + (fg p x.moved[k]).hands := by
  unfold handsK; rw [List.take_succ_eq_append_getElem h, List.map_append, List.sum_append]; simp; omega
theorem handsK_all (p : Ply) (x : Scn) : handsK p x x.moved.length = hands p x := by unfold handsK hands; rw [List.take_length]
end St
namespace St
open Ni (inn)
open Hd (every getD_at mem_every every_rising)
theorem okL_inj {b : Bool} {p : Ply} {x : Scn} {l : List Int} (h : okL b p x l = true) : inj l = true := by
  unfold okL okI plc at h; unfold inj
  simp only [Bool.and_eq_true, Bool.not_eq_true', decide_eq_false_iff_not] at h ⊢
  exact fun q => h.1.1 (.inr q)
theorem arr_filter (b : Bool) (p : Ply) (x : Scn) : arr b p x = (dfs inj p.hts.length x.rest.length []).filter (suits b p x) := by
  unfold arr
  rw [dfs_filter (ok := inj) (fun l h => okL_inj h)]
  exact List.filter_congr fun l _ => suits_good b p x l
def stands (p : Ply) (x : Scn) (l : List Int) : Bool := decide (∀ i, i < l.length → ¬ (l.getD i 0 ∈ l.take i ∨ l.getD i 0 ∈ x.taken ∨ ((rf p x i).side = 1 ∧ p.left ≤ l.getD i 0) ∨ ((rf p x i).side = 2 ∧ l.getD i 0 < p.left)))
def ranks (p : Ply) (x : Scn) (l : List Int) : Bool := decide (∀ i, i < l.length → ht p (l.getD i 0) ≤ (rf p x i).rank ∧ ∀ k, k < l.length → clash p x l i k = false)
theorem rf_B {p : Ply} (B : PlB p) {x : Scn} (X : ScB p x) {i : Nat} (hi : i < x.rest.length) : (1 ≤ (rf p x i).side ∧ (rf p x i).side ≤ 3) ∧ (1 ≤ (rf p x i).rank ∧ (rf p x i).rank ≤ 9) := by
  have h := (rising_iff.1 X.rs).2 x.rest[i] (List.getElem_mem hi)
  unfold rf; rw [getD_at hi]
  exact ⟨(fg_B B h.1 h.2).1, (fg_B B h.1 h.2).2.1⟩
theorem plc_stands {p : Ply} (B : PlB p) {x : Scn} (X : ScB p x) {l : List Int} {i : Nat} (hi : i < x.rest.length) :
    plc p x l i = true ↔ ¬ (l.getD i 0 ∈ l.take i ∨ l.getD i 0 ∈ x.taken ∨ ((rf p x i).side = 1 ∧ p.left ≤ l.getD i 0) ∨ ((rf p x i).side = 2 ∧ l.getD i 0 < p.left)) := by
  have hb := (rf_B B X hi).1
  unfold plc lf
  rw [Bool.and_eq_true, Bool.not_eq_true', decide_eq_false_iff_not, Bool.or_eq_true, decide_eq_true_eq, beq_iff_eq, decide_eq_decide]
  constructor
  · rintro ⟨h1, h2⟩ h3
    rcases h3 with h3 | h3 | h3 | h3
    · exact h1 (.inr h3)
    · exact h1 (.inl h3)
    · rcases h2 with h2 | h2 <;> omega
    · rcases h2 with h2 | h2 <;> omega
  · intro h
    refine ⟨fun q => h (by rcases q with q | q; exact .inr (.inl q); exact .inl q), ?_⟩
    have h3 : ¬ ((rf p x i).side = 1 ∧ p.left ≤ l.getD i 0) := fun q => h (.inr (.inr (.inl q)))
    have h4 : ¬ ((rf p x i).side = 2 ∧ l.getD i 0 < p.left) := fun q => h (.inr (.inr (.inr q)))
    omega
theorem clash_self (p : Ply) (x : Scn) (l : List Int) (i : Nat) : clash p x l i i = false := by unfold clash; simp
theorem suits_stands {p : Ply} (B : PlB p) {x : Scn} (X : ScB p x) {l : List Int} (hl : l.length = x.rest.length) : suits false p x l = stands p x l := by
  unfold suits stands
  rw [decide_eq_decide]
  refine forall_congr' fun i => forall_congr' fun hi => ?_
  unfold okI; rw [← plc_stands B X (by omega)]; simp
theorem suits_ranks {p : Ply} (B : PlB p) {x : Scn} (X : ScB p x) {l : List Int} (hl : l.length = x.rest.length) : suits true p x l = (ranks p x l && stands p x l) := by
  rw [← suits_stands B X hl]
  unfold suits ranks
  rw [Bool.eq_iff_iff, Bool.and_eq_true, decide_eq_true_eq, decide_eq_true_eq, decide_eq_true_eq]
  unfold okI low rkd
  simp only [Bool.and_eq_true, Bool.or_eq_true, decide_eq_true_eq, Bool.not_true, Bool.not_false, true_or, and_true, Bool.false_eq_true, false_or]
  constructor
  · intro h
    refine ⟨fun i hi => ⟨(h i hi).2.1, fun k hk => ?_⟩, fun i hi => (h i hi).1⟩
    rcases Nat.lt_trichotomy i k with q | q | q
    · exact ((h k hk).2.2 i q).1
    · subst q; exact clash_self _ _ _ _
    · exact ((h i hi).2.2 k q).2
  · rintro ⟨h1, h2⟩ i hi
    exact ⟨h2 i hi, (h1 i hi).1, fun j hj => ⟨(h1 j (by omega)).2 i hi, (h1 i hi).2 j (by omega)⟩⟩
end St
namespace Go.Proofs.YtfmpabgblbbcdaaGreatDoor
open Go Go.Ab Ni St
open Hd hiding sz
abbrev C (c : UInt8) : AV := .raw (.int .u8 c.toNat)
theorem rin_pure (n lo hi : Int) : APure Tryz.prog 77 [I n, I lo, I hi] (B (inn n lo hi)) := by
  refine ap Tryz.func77 (fun e0 he0 => ?_)
  refine wz 5 ?_
  refine sz 10 (fun g1 g1' => ?_) (fun g1 g1' => ?_)
  ·refine wz 5 ?_
   exact rz rfl (Less.eq (by simp [inn, *]))
  refine wz 5 ?_
  exact rz rfl (Less.eq (by simp [inn, *]))
end Go.Proofs.YtfmpabgblbbcdaaGreatDoor
namespace Go.Proofs.YtfmpabgblbbcdaaGreatDoor
open Go Go.Ab Ni St
open Hd hiding sz
theorem madds_b1 {p : Ply} (hh : p.hts.length ≤ 1000000) (hf : p.figs.length ≤ 1000000) (hs : p.scs.length ≤ 1000000) (hx : ∀ x ∈ p.scs, x.moved.length ≤ 1000000 ∧ x.rest.length ≤ 1000000 ∧ x.taken.length ≤ 1000000) (n : Int) (h1 : plOK p = false) : APure Tryz.prog 87 [plA p, I n, .fn (.func 88) [] []] (.tup [ints [], I 2]) := by
  refine ap Tryz.func87 (fun e0 he0 => ?_)
  refine vz 3 ?_
  refine sq_nil ?_
  refine aw_seq ?_
  refine aw_seq ?_
  have hpl := isplay_pure p hh hf hs hx
  rw [h1] at hpl
  refine wz 1 ?_
  refine kz az (hpl) ?_
  refine wz 10 ?_
  exact retQ_pure (v := .tup [.raw (.slice none 0 0), .raw _]) rfl rfl (less_tup ⟨less_nil 1, jz, trivial⟩)
theorem madds_b2 {p : Ply} (hh : p.hts.length ≤ 1000000) (hf : p.figs.length ≤ 1000000) (hs : p.scs.length ≤ 1000000) (hx : ∀ x ∈ p.scs, x.moved.length ≤ 1000000 ∧ x.rest.length ≤ 1000000 ∧ x.taken.length ≤ 1000000) (n : Int) (h1 : plOK p = true) (h2 : scIn p n = false) : APure Tryz.prog 87 [plA p, I n, .fn (.func 88) [] []] (.tup [ints [], I 2]) := by
  refine ap Tryz.func87 (fun e0 he0 => ?_)
  refine vz 3 ?_
  refine sq_nil ?_
  refine aw_seq ?_
  refine aw_seq ?_
  have hpl := isplay_pure p hh hf hs hx
  rw [h1] at hpl
  have hsc := isscene_pure p n hs
  rw [h2] at hsc
  refine wz 1 ?_
  refine kz az (hpl) ?_
  refine wz 4 ?_
  refine ky az (hsc) ?_
  refine wz 5 ?_
  exact retQ_pure (v := .tup [.raw (.slice none 0 0), .raw _]) rfl rfl (less_tup ⟨less_nil 1, jz, trivial⟩)
theorem madds_bad {p : Ply} (hh : p.hts.length ≤ 1000000) (hf : p.figs.length ≤ 1000000) (hs : p.scs.length ≤ 1000000) (hx : ∀ x ∈ p.scs, x.moved.length ≤ 1000000 ∧ x.rest.length ≤ 1000000 ∧ x.taken.length ≤ 1000000) (n : Int) (ho : (plOK p && scIn p n) = false) : APure Tryz.prog 87 [plA p, I n, .fn (.func 88) [] []] (.tup [ints [], I 2]) := by
  cases h1 : plOK p with
  | false => exact madds_b1 hh hf hs hx n h1
  | true => exact madds_b2 hh hf hs hx n h1 (by rw [h1] at ho; simpa using ho)
theorem mjoins_b1 {p : Ply} (hh : p.hts.length ≤ 1000000) (hf : p.figs.length ≤ 1000000) (hs : p.scs.length ≤ 1000000) (hx : ∀ x ∈ p.scs, x.moved.length ≤ 1000000 ∧ x.rest.length ≤ 1000000 ∧ x.taken.length ≤ 1000000) (n : Int) (h1 : plOK p = false) : APure Tryz.prog 87 [plA p, I n, .fn (.func 90) [] []] (.tup [ints [], I 2]) := by
  refine ap Tryz.func87 (fun e0 he0 => ?_)
  refine vz 3 ?_
  refine sq_nil ?_
  refine aw_seq ?_
  refine aw_seq ?_
  have hpl := isplay_pure p hh hf hs hx
  rw [h1] at hpl
  refine wz 1 ?_
  refine kz az (hpl) ?_
  refine wz 10 ?_
  exact retQ_pure (v := .tup [.raw (.slice none 0 0), .raw _]) rfl rfl (less_tup ⟨less_nil 1, jz, trivial⟩)
theorem mjoins_b2 {p : Ply} (hh : p.hts.length ≤ 1000000) (hf : p.figs.length ≤ 1000000) (hs : p.scs.length ≤ 1000000) (hx : ∀ x ∈ p.scs, x.moved.length ≤ 1000000 ∧ x.rest.length ≤ 1000000 ∧ x.taken.length ≤ 1000000) (n : Int) (h1 : plOK p = true) (h2 : scIn p n = false) : APure Tryz.prog 87 [plA p, I n, .fn (.func 90) [] []] (.tup [ints [], I 2]) := by
  refine ap Tryz.func87 (fun e0 he0 => ?_)
  refine vz 3 ?_
  refine sq_nil ?_
  refine aw_seq ?_
  refine aw_seq ?_
  have hpl := isplay_pure p hh hf hs hx
  rw [h1] at hpl
  have hsc := isscene_pure p n hs
  rw [h2] at hsc
  refine wz 1 ?_
  refine kz az (hpl) ?_
  refine wz 4 ?_
  refine ky az (hsc) ?_
  refine wz 5 ?_
  exact retQ_pure (v := .tup [.raw (.slice none 0 0), .raw _]) rfl rfl (less_tup ⟨less_nil 1, jz, trivial⟩)
theorem mjoins_bad {p : Ply} (hh : p.hts.length ≤ 1000000) (hf : p.figs.length ≤ 1000000) (hs : p.scs.length ≤ 1000000) (hx : ∀ x ∈ p.scs, x.moved.length ≤ 1000000 ∧ x.rest.length ≤ 1000000 ∧ x.taken.length ≤ 1000000) (n : Int) (ho : (plOK p && scIn p n) = false) : APure Tryz.prog 87 [plA p, I n, .fn (.func 90) [] []] (.tup [ints [], I 2]) := by
  cases h1 : plOK p with
  | false => exact mjoins_b1 hh hf hs hx n h1
  | true => exact mjoins_b2 hh hf hs hx n h1 (by rw [h1] at ho; simpa using ho)
end Go.Proofs.YtfmpabgblbbcdaaGreatDoor
namespace Go.Proofs.YtfmpabgblbbcdaaGreatDoor
open Go Go.Ab Ni St
open Hd hiding sz
theorem xadds_bad {p : Ply} (hh : p.hts.length ≤ 1000000) (hf : p.figs.length ≤ 1000000) (hs : p.scs.length ≤ 1000000) (hx : ∀ x ∈ p.scs, x.moved.length ≤ 1000000 ∧ x.rest.length ≤ 1000000 ∧ x.taken.length ≤ 1000000) (n : Int) (ho : (plOK p && scIn p n) = false) : APure Tryz.prog 30 [plA p, I n] (.tup [ints [], I 2]) := by
  refine ap Tryz.func30 (fun e0 he0 => ?_)
  refine wz 5 ?_
  refine kz az (madds_bad hh hf hs hx n ho) ?_
  refine wz 4 ?_
  exact retQ_pure (v := .tup [.sl _ _, .raw _]) rfl rfl (less_tup ⟨jz, jz, trivial⟩)
theorem xjoins_bad {p : Ply} (hh : p.hts.length ≤ 1000000) (hf : p.figs.length ≤ 1000000) (hs : p.scs.length ≤ 1000000) (hx : ∀ x ∈ p.scs, x.moved.length ≤ 1000000 ∧ x.rest.length ≤ 1000000 ∧ x.taken.length ≤ 1000000) (n : Int) (ho : (plOK p && scIn p n) = false) : APure Tryz.prog 31 [plA p, I n] (.tup [ints [], I 2]) := by
  refine ap Tryz.func31 (fun e0 he0 => ?_)
  refine wz 5 ?_
  refine kz az (mjoins_bad hh hf hs hx n ho) ?_
  refine wz 4 ?_
  exact retQ_pure (v := .tup [.sl _ _, .raw _]) rfl rfl (less_tup ⟨jz, jz, trivial⟩)
end Go.Proofs.YtfmpabgblbbcdaaGreatDoor
namespace Go.Proofs.YtfmpabgblbbcdaaGreatDoor
open Go Go.Ab Ni St
open Hd hiding sz
instance en19 : EnT Tryz.prog 19 := ⟨Ent.of Tryz.func19 (by kernel_rfl) rfl⟩
instance en22 : EnT Tryz.prog 22 := ⟨Ent.of Tryz.func22 (by kernel_rfl) rfl⟩
instance en26 : EnT Tryz.prog 26 := ⟨Ent.of Tryz.func26 (by kernel_rfl) rfl⟩
instance en27 : EnT Tryz.prog 27 := ⟨Ent.of Tryz.func27 (by kernel_rfl) rfl⟩
instance en77 : EnT Tryz.prog 77 := ⟨Ent.of Tryz.func77 (by kernel_rfl) rfl⟩
instance en78 : EnT Tryz.prog 78 := ⟨Ent.of Tryz.func78 (by kernel_rfl) rfl⟩
instance en95 : EnT Tryz.prog 95 := ⟨Ent.of Tryz.func95 (by kernel_rfl) rfl⟩
theorem all_of {α : Type} {q : α → Bool} {l : List α} (h : ∀ j, (hj : j < l.length) → q l[j] = true) : l.all q = true := List.all_eq_true.2 fun x hx => by obtain ⟨j, hj, rfl⟩ := List.getElem_of_mem hx; exact h j hj
theorem all_bad {α : Type} {q : α → Bool} {l : List α} {i : Nat} (hi : i < l.length) (h : q l[i] = false) : l.all q = false := by rw [List.all_eq_false]; exact ⟨_, List.getElem_mem hi, by rw [h]; simp⟩
theorem all_sym (a b : List Int) : (a.all fun n => !decide (n ∈ b)) = b.all fun n => !decide (n ∈ a) := by
  rw [Bool.eq_iff_iff, List.all_eq_true, List.all_eq_true]
  simp only [Bool.not_eq_true', decide_eq_false_iff_not]
  exact ⟨fun h n hn hm => h n hm hn, fun h n hn hm => h n hm hn⟩
def shX (x : Scn) : Bool := decide (x.moved.length ≤ 10) && decide (x.rest.length ≤ 10) && decide (x.taken.length ≤ 10)
def shB (p : Ply) : Bool := decide (p.hts.length ≤ 10) && decide (p.figs.length ≤ 8) && decide (p.scs.length ≤ 7) && decide (∀ i, (hi : i < p.scs.length) → i < 8 → shX p.scs[i] = true)
theorem shB_row {p : Ply} {i : Nat} (hi : i < p.scs.length) (h8 : i < 8) (h : shX p.scs[i] = false) : shB p = false := by
  unfold shB
  rw [decide_eq_false (p := ∀ i, (hi : i < p.scs.length) → i < 8 → shX p.scs[i] = true) (fun q => by rw [q i hi h8] at h; cases h)]; simp
theorem shB_fin {p : Ply} (h : ∀ i, (hi : i < p.scs.length) → i < 8 → shX p.scs[i] = true) : shB p = (decide (p.hts.length ≤ 10) && decide (p.figs.length ≤ 8) && decide (p.scs.length ≤ 7)) := by
  unfold shB; rw [decide_eq_true h, Bool.and_true]
theorem shB_len {p : Ply} (h : shB p = true) : p.hts.length ≤ 1000000 ∧ p.figs.length ≤ 1000000 ∧ p.scs.length ≤ 1000000 ∧ ∀ x ∈ p.scs, x.moved.length ≤ 1000000 ∧ x.rest.length ≤ 1000000 ∧ x.taken.length ≤ 1000000 := by
  unfold shB at h
  simp only [Bool.and_eq_true, decide_eq_true_eq] at h
  refine ⟨by omega, by omega, by omega, fun x hx => ?_⟩
  obtain ⟨i, hi, rfl⟩ := List.getElem_of_mem hx
  have := h.2 i hi (by omega)
  unfold shX at this
  simp only [Bool.and_eq_true, decide_eq_true_eq] at this
  omega
theorem has_pure (l : List Int) (n : Int) (hl : l.length ≤ 1000000) : APure Tryz.prog 27 [ints l, I n] (B (decide (n ∈ l))) := by
  refine ap Tryz.func27 (fun e0 he0 => ?_)
  refine wz 2 ?_
  refine aw_loopk (ι := { k : Nat // k ≤ l.length ∧ ∀ i, (hi : i < l.length) → i < k → l[i] ≠ n }) [0, 1] (fun i => [(5, I i.1)]) (fun H i => H) (fun i => l.length - i.1) (⟨0, Nat.zero_le _, by omega⟩) ⟨jz, jz, jz, trivial⟩ rfl ?_
  rintro ⟨k, hk, hok⟩
  refine nz ?_
  refine wz 4 ?_
  refine iz (fun c_9 c_9' => ?_) (fun c_9 c_9' => ?_)
  ·have hkL : k < l.length := by omega
   refine wz 6 ?_
   refine iz (fun c_17 c_17' => ?_) (fun c_17 c_17' => ?_)
   ·have hmem : n ∈ l := by have h5 := of_decide_eq_true c_17; exact h5 ▸ List.getElem_mem hkL
    refine wz 1 ?_
    exact rz rfl (Less.eq (by rw [decide_eq_true hmem]))
   refine wz 3 ?_
   exact ⟨⟨k + 1, by omega, fun i hi h => (by by_cases e : i = k; (subst e; simpa using c_17); exact hok i hi (by omega))⟩, by simp only; omega, Sub.slots ⟨jz, jz, jz, trivial⟩⟩
  obtain rfl : k = l.length := by omega
  have hno : ¬ n ∈ l := fun h => by obtain ⟨i, hi, h6⟩ := List.getElem_of_mem h; exact hok i hi hi h6
  refine wz 1 ?_
  exact rz rfl (Less.eq (by rw [decide_eq_false hno]))
theorem rrising_pure (l : List Int) (n : Nat) (hl : l.length ≤ 1000000) (hn : n ≤ 1000000) : APure Tryz.prog 95 [ints l, I n] (B (rising l n)) := by
  refine ap Tryz.func95 (fun e0 he0 => ?_)
  refine wz 2 ?_
  refine aw_loopk (ι := { k : Nat // k ≤ l.length ∧ ∀ i, (hi : i < l.length) → i < k → (0 ≤ l[i] ∧ l[i] < n) ∧ (0 < i → l[i - 1] < l[i]) }) [0, 1] (fun i => [(5, I i.1)]) (fun H i => H) (fun i => l.length - i.1) (⟨0, Nat.zero_le _, by omega⟩) ⟨jz, jz, jz, trivial⟩ rfl ?_
  rintro ⟨k, hk1, hok⟩
  refine nz ?_
  refine wz 4 ?_
  refine iz (fun c_9 c_9' => ?_) (fun c_9 c_9' => ?_)
  ·have hkl : k < l.length := by omega
   have hin : inn l[k] 0 ((n : Int) - 1) = true ↔ 0 ≤ l[k] ∧ l[k] ≤ (n : Int) - 1 := by unfold inn; simp
   refine wz 0 ?_
   refine aw_draw 24 mo (by kernel_rfl) ?_
   refine dz 6 ?_
   refine dkz az (rin_pure _ _ _) ?_
   refine dz 2 ?_
   refine dsz 20 (fun g4_8 g4_8' => ?_) (fun g4_8 g4_8' => ?_)
   ·have hb0 : ¬ (0 ≤ l[k] ∧ l[k] ≤ (n : Int) - 1) := fun q => by rw [hin.2 q] at g4_8; simp at g4_8
    have hno : rising l n = false := rising_no hkl (fun q => hb0 (by omega))
    refine dz 15 ?_
    refine wz 2 ?_
    exact rz rfl (Less.eq (by rw [hno]))
   have hb1 : 0 ≤ l[k] ∧ l[k] ≤ (n : Int) - 1 := hin.1 (by simpa using g4_8)
   refine dz 3 ?_
   refine dsz 23 (fun g4_11 g4_11' => ?_) (fun g4_11 g4_11' => ?_)
   ·refine dz 7 ?_
    refine dr_yes rfl rfl (less_b g4_11) rfl (ev_index_map (k := k - 1) sl22.h jz jz (by omega) (by omega)) ?_
    refine dz 4 ?_
    refine wz 0 ?_
    refine iz (fun c_35 c_35' => ?_) (fun c_35 c_35' => ?_)
    ·have hno : rising l n = false := rising_no hkl (fun q => by have h5 := q.2 (by omega); have h6 := of_decide_eq_true c_35; omega)
     refine wz 1 ?_
     exact rz rfl (Less.eq (by rw [hno]))
    have hst : (0 ≤ l[k] ∧ l[k] < n) ∧ (0 < k → l[k - 1] < l[k]) := ⟨by omega, fun q => by have := of_decide_eq_false c_35; omega⟩
    refine wz 3 ?_
    exact ⟨⟨k + 1, by omega, fun i hi q => by rcases Nat.lt_or_ge i k with q2 | q2; exact hok i hi q2; (obtain rfl : i = k := by omega); exact hst⟩, by simp only; omega, Sub.slots ⟨jz, jz, jz, trivial⟩⟩
   have hst : (0 ≤ l[k] ∧ l[k] < n) ∧ (0 < k → l[k - 1] < l[k]) := ⟨by omega, fun q => by omega⟩
   refine dz 12 ?_
   refine wz 4 ?_
   exact ⟨⟨k + 1, by omega, fun i hi q => by rcases Nat.lt_or_ge i k with q2 | q2; exact hok i hi q2; (obtain rfl : i = k := by omega); exact hst⟩, by simp only; omega, Sub.slots ⟨jz, jz, jz, trivial⟩⟩
  obtain rfl : k = l.length := by omega
  have hall := rising_yes fun i hi => hok i hi hi
  refine wz 1 ?_
  exact rz rfl (Less.eq (by rw [hall]))
theorem rscene_pure (p : Ply) (x : Scn) (h1 : x.moved.length ≤ 1000000) (h2 : x.rest.length ≤ 1000000) (h3 : x.taken.length ≤ 1000000) (hh : p.hts.length ≤ 1000000) (hf : p.figs.length ≤ 1000000) : APure Tryz.prog 78 [plA p, .agg (scC x)] (B (scOK p x)) := by
  refine ap Tryz.func78 (fun e0 he0 => ?_)
  refine wz 8 ?_
  refine kz az (rrising_pure x.moved p.figs.length h1 hf) ?_
  refine wz 2 ?_
  refine sz 13 (fun g1_7 g1_7' => ?_) (fun g1_7 g1_7' => ?_)
  ·refine wz 31 ?_
   exact rz rfl (Less.eq (congrArg B (by unfold scOK; simp [*])))
  refine wz 5 ?_
  refine ky az (rrising_pure x.rest p.figs.length h2 hf) ?_
  refine wz 3 ?_
  refine sz 22 (fun g1_16 g1_16' => ?_) (fun g1_16 g1_16' => ?_)
  ·refine wz 22 ?_
   exact rz rfl (Less.eq (congrArg B (by unfold scOK; simp [*])))
  refine wz 5 ?_
  refine ky az (rrising_pure x.taken p.hts.length h3 hh) ?_
  refine wz 3 ?_
  refine sz 31 (fun g1_25 g1_25' => ?_) (fun g1_25 g1_25' => ?_)
  ·refine wz 13 ?_
   exact rz rfl (Less.eq (congrArg B (by unfold scOK; simp [*])))
  refine wz 6 ?_
  refine sz 37 (fun g1_31 g1_31' => ?_) (fun g1_31 g1_31' => ?_)
  ·have k31 : ¬ x.rest.length ≤ 4 := by omega
   refine wz 7 ?_
   exact rz rfl (Less.eq (congrArg B (by unfold scOK; simp [*])))
  have k31 : x.rest.length ≤ 4 := by omega
  refine wz 2 ?_
  refine ky az (rin_pure _ _ _) ?_
  refine wz 2 ?_
  refine iz (fun c_42 c_42' => ?_) (fun c_42 c_42' => ?_)
  ·refine wz 1 ?_
   exact rz rfl (Less.eq (congrArg B (by unfold scOK; simp [*])))
  refine wz 1 ?_
  refine aw_loopk (ι := { k : Nat // k ≤ x.rest.length ∧ ∀ i, (hi : i < x.rest.length) → i < k → (!decide (x.rest[i] ∈ x.moved)) = true }) [3] (fun i => [(5, I i.1)]) (fun H i => H) (fun i => x.rest.length - i.1) (⟨0, Nat.zero_le _, by omega⟩) ⟨jz, jz, trivial⟩ rfl ?_
  rintro ⟨k, hk, hok⟩
  refine nz ?_
  refine wz 5 ?_
  refine iz (fun c_47 c_47' => ?_) (fun c_47 c_47' => ?_)
  ·have hkL : k < x.rest.length := by omega
   refine wz 0 ?_
   refine aw_draw 8 mo (by kernel_rfl) ?_
   refine dz 7 ?_
   refine dkz az (has_pure _ _ h1) ?_
   refine dr_end ?_
   refine wz 0 ?_
   refine iz (fun c_57 c_57' => ?_) (fun c_57 c_57' => ?_)
   ·have hbad : (x.rest.all fun n => !decide (n ∈ x.moved)) = false := all_bad hkL (by rw [decide_eq_true (of_decide_eq_true c_57)]; rfl)
    refine wz 1 ?_
    exact rz rfl (Less.eq (congrArg B (by unfold scOK; rw [all_sym, hbad]; simp)))
   refine wz 3 ?_
   exact ⟨⟨k + 1, by omega, fun i hi h => (by by_cases e : i = k; (subst e; rw [decide_eq_false (of_decide_eq_false c_57)]; rfl); exact hok i hi (by omega))⟩, by simp only; omega, Sub.slots ⟨jz, jz, trivial⟩⟩
  obtain rfl : k = x.rest.length := by omega
  have hall : (x.rest.all fun n => !decide (n ∈ x.moved)) = true := all_of fun j hj => hok j hj hj
  refine wz 1 ?_
  exact rz rfl (Less.eq (congrArg B (by unfold scOK; rw [all_sym, hall]; simp_all)))
theorem rplay_pure (p : Ply) (hh : p.hts.length ≤ 1000000) (hf : p.figs.length ≤ 1000000) (hs : p.scs.length ≤ 1000000) (hx : ∀ x ∈ p.scs, x.moved.length ≤ 1000000 ∧ x.rest.length ≤ 1000000 ∧ x.taken.length ≤ 1000000) : APure Tryz.prog 22 [plA p] (B (plOK p)) := by
  refine ap Tryz.func22 (fun e0 he0 => ?_)
  refine wz 5 ?_
  refine kz az (rin_pure _ _ _) ?_
  refine wz 2 ?_
  refine sz 12 (fun g1_5 g1_5' => ?_) (fun g1_5 g1_5' => ?_)
  ·refine wz 24 ?_
   exact rz rfl (Less.eq (by unfold plOK; simp_all))
  refine wz 3 ?_
  refine ky az (rin_pure _ _ _) ?_
  refine wz 3 ?_
  refine sz 19 (fun g1_12 g1_12' => ?_) (fun g1_12 g1_12' => ?_)
  ·refine wz 17 ?_
   exact rz rfl (Less.eq (by unfold plOK; simp_all))
  refine wz 3 ?_
  refine ky az (rin_pure _ _ _) ?_
  refine wz 3 ?_
  refine sz 26 (fun g1_19 g1_19' => ?_) (fun g1_19 g1_19' => ?_)
  ·refine wz 10 ?_
   exact rz rfl (Less.eq (by unfold plOK; simp_all))
  refine wz 5 ?_
  refine ky az (rin_pure _ _ _) ?_
  refine wz 2 ?_
  refine iz (fun c_34 c_34' => ?_) (fun c_34 c_34' => ?_)
  ·refine wz 1 ?_
   exact rz rfl (Less.eq (by unfold plOK; simp_all))
  refine wz 1 ?_
  refine aw_loopk (ι := { k : Nat // k ≤ p.hts.length ∧ ∀ i, (hi : i < p.hts.length) → i < k → inn p.hts[i] 1 9 = true }) [1] (fun i => [(3, I i.1)]) (fun H i => H) (fun i => p.hts.length - i.1) (⟨0, Nat.zero_le _, by omega⟩) ⟨jz, jz, trivial⟩ rfl ?_
  rintro ⟨k, hk, hok⟩
  refine nz ?_
  refine wz 5 ?_
  refine iz (fun c_39 c_39' => ?_) (fun c_39 c_39' => ?_)
  ·have hkl : k < p.hts.length := by omega
   refine wz 5 ?_
   refine kz az (rin_pure _ _ _) ?_
   refine wz 1 ?_
   refine iz (fun c_48 c_48' => ?_) (fun c_48 c_48' => ?_)
   ·have hbad : (p.hts.all fun n => inn n 1 9) = false := all_bad hkl (by simpa using c_48)
    refine wz 1 ?_
    exact rz rfl (Less.eq (by unfold plOK; rw [hbad]; simp))
   refine wz 3 ?_
   exact ⟨⟨k + 1, by omega, fun i hi h => (by by_cases e : i = k; (subst e; simpa using c_48); exact hok i hi (by omega))⟩, by simp only; omega, Sub.slots ⟨jz, jz, trivial⟩⟩
  obtain rfl : k = p.hts.length := by omega
  have hall1 : (p.hts.all fun n => inn n 1 9) = true := all_of fun j hj => hok j hj hj
  refine wz 1 ?_
  refine aw_loopk (ι := { k : Nat // k ≤ p.figs.length ∧ ∀ i, (hi : i < p.figs.length) → i < k → fgOK p.figs[i] = true }) [1] (fun i => [(4, I i.1)]) (fun H i => H) (fun i => p.figs.length - i.1) (⟨0, Nat.zero_le _, by omega⟩) ⟨jz, jz, trivial⟩ rfl ?_
  rintro ⟨k, hk2, hok2⟩
  refine nz ?_
  refine wz 5 ?_
  refine iz (fun c_53 c_53' => ?_) (fun c_53 c_53' => ?_)
  ·have hfl : k < p.figs.length := by omega
   have hfe : fgOK p.figs[k] = ((!decide (p.figs[k].side < 1) && !decide (p.figs[k].side > 3)) && inn p.figs[k].rank 1 9 && inn p.figs[k].hands 1 2) := by unfold fgOK; rw [show inn p.figs[k].side 1 3 = (!(decide (p.figs[k].side < 1)) && !(decide (p.figs[k].side > 3))) by unfold inn; rw [Bool.eq_iff_iff]; simp]
   refine wz 11 ?_
   refine sz 64 (fun g12_3 g12_3' => ?_) (fun g12_3 g12_3' => ?_)
   ·have hbad : p.figs.all fgOK = false := all_bad hfl (by rw [hfe]; simp [*])
    refine wz 18 ?_
    exact rz rfl (Less.eq (by unfold plOK; rw [hbad]; simp))
   refine wz 5 ?_
   refine sz 69 (fun g12_8 g12_8' => ?_) (fun g12_8 g12_8' => ?_)
   ·have hbad : p.figs.all fgOK = false := all_bad hfl (by rw [hfe]; simp [*])
    refine wz 13 ?_
    exact rz rfl (Less.eq (by unfold plOK; rw [hbad]; simp))
   refine wz 2 ?_
   refine ky az (rin_pure _ _ _) ?_
   refine wz 3 ?_
   refine sz 75 (fun g12_14 g12_14' => ?_) (fun g12_14 g12_14' => ?_)
   ·have hbad : p.figs.all fgOK = false := all_bad hfl (by rw [hfe]; simp [*])
    refine wz 7 ?_
    exact rz rfl (Less.eq (by unfold plOK; rw [hbad]; simp))
   refine wz 2 ?_
   refine ky az (rin_pure _ _ _) ?_
   refine wz 2 ?_
   refine iz (fun c_80 c_80' => ?_) (fun c_80 c_80' => ?_)
   ·have hbad : p.figs.all fgOK = false := all_bad hfl (by rw [hfe]; simp [*])
    refine wz 1 ?_
    exact rz rfl (Less.eq (by unfold plOK; rw [hbad]; simp))
   have hfg : fgOK p.figs[k] = true := by rw [hfe]; simp [*]
   refine wz 3 ?_
   exact ⟨⟨k + 1, by omega, fun i hi h => (by by_cases e : i = k; (subst e; exact hfg); exact hok2 i hi (by omega))⟩, by simp only; omega, sb 1 ⟨jz, jz, trivial⟩⟩
  obtain rfl : k = p.figs.length := by omega
  have hall2 : p.figs.all fgOK = true := all_of fun j hj => hok2 j hj hj
  refine wz 1 ?_
  refine aw_loopk (ι := { k : Nat // k ≤ p.scs.length ∧ ∀ i, (hi : i < p.scs.length) → i < k → scOK p p.scs[i] = true }) [1] (fun i => [(6, I i.1)]) (fun H i => H) (fun i => p.scs.length - i.1) (⟨0, Nat.zero_le _, by omega⟩) ⟨jz, jz, trivial⟩ rfl ?_
  rintro ⟨k, hk3, hok3⟩
  refine nz ?_
  refine wz 5 ?_
  refine iz (fun c_85 c_85' => ?_) (fun c_85 c_85' => ?_)
  ·have hsl : k < p.scs.length := by omega
   have hxk := hx _ (List.getElem_mem hsl)
   refine wz 0 ?_
   refine aw_draw 8 mo (by kernel_rfl) ?_
   refine dz 6 ?_
   refine dkz az (rscene_pure p _ hxk.1 hxk.2.1 hxk.2.2 hh hf) ?_
   refine dz 1 ?_
   refine wz 0 ?_
   refine iz (fun c_95 c_95' => ?_) (fun c_95 c_95' => ?_)
   ·have hbad : p.scs.all (scOK p) = false := all_bad hsl (by simpa using c_95)
    refine wz 1 ?_
    exact rz rfl (Less.eq (by unfold plOK; rw [hbad]; simp))
   refine wz 3 ?_
   exact ⟨⟨k + 1, by omega, fun i hi h => (by by_cases e : i = k; (subst e; simpa using c_95); exact hok3 i hi (by omega))⟩, by simp only; omega, Sub.slots ⟨jz, jz, trivial⟩⟩
  obtain rfl : k = p.scs.length := by omega
  have hall3 : p.scs.all (scOK p) = true := all_of fun j hj => hok3 j hj hj
  refine wz 1 ?_
  exact rz rfl (Less.eq (by unfold plOK; rw [hall1, hall2, hall3]; simp_all))
theorem rscn_pure (p : Ply) (n : Int) (hs : p.scs.length ≤ 1000000) : APure Tryz.prog 26 [plA p, I n] (B (scIn p n)) := by
  refine ap Tryz.func26 (fun e0 he0 => ?_)
  refine wz 7 ?_
  refine kz az (rin_pure _ _ _) ?_
  refine wz 1 ?_
  exact rz rfl jz
theorem short_pure (p : Ply) : APure Tryz.prog 19 [plA p] (B (shB p)) := by
  refine ap Tryz.func19 (fun e0 he0 => ?_)
  refine wz 3 ?_
  refine aw_loopk (ι := { k : Nat // k ≤ p.scs.length ∧ k ≤ 8 ∧ ∀ i, (hi : i < p.scs.length) → i < k → shX p.scs[i] = true }) [1] (fun i => [(3, I i.1)]) (fun H i => H) (fun i => p.scs.length - i.1) (⟨0, Nat.zero_le _, by omega, by omega⟩) ⟨jz, jz, trivial⟩ rfl ?_
  rintro ⟨k, hk, hk8, hok⟩
  refine nz ?_
  refine wz 6 ?_
  refine sz 10 (fun g2_5 g2_5' => ?_) (fun g2_5 g2_5' => ?_)
  ·have hkl : k < p.scs.length := by omega
   refine wz 3 ?_
   refine iz (fun c_13 c_13' => ?_) (fun c_13 c_13' => ?_)
   ·have hk8b : k < 8 := by have := of_decide_eq_true c_13; omega
    refine wz 12 ?_
    refine sz 25 (fun g5_4 g5_4' => ?_) (fun g5_4 g5_4' => ?_)
    ·have hbad := shB_row hkl hk8b (by unfold shX; simp; omega)
     refine wz 13 ?_
     exact rz rfl (Less.eq (by rw [hbad]))
    refine wz 6 ?_
    refine sz 31 (fun g5_10 g5_10' => ?_) (fun g5_10 g5_10' => ?_)
    ·have hbad := shB_row hkl hk8b (by unfold shX; simp; omega)
     refine wz 7 ?_
     exact rz rfl (Less.eq (by rw [hbad]))
    refine wz 5 ?_
    refine iz (fun c_36 c_36' => ?_) (fun c_36 c_36' => ?_)
    ·have h6 := of_decide_eq_true c_36
     have hbad := shB_row hkl hk8b (by unfold shX; simp; omega)
     refine wz 1 ?_
     exact rz rfl (Less.eq (by rw [hbad]))
    have h6 := of_decide_eq_false c_36
    have hsx : shX p.scs[k] = true := by unfold shX; simp; omega
    refine wz 3 ?_
    exact ⟨⟨k + 1, by omega, by omega, fun i hi h => (by by_cases e : i = k; (subst e; exact hsx); exact hok i hi (by omega))⟩, by simp only; omega, sb 1 ⟨jz, jz, trivial⟩⟩
   refine wz 5 ?_
   refine sz 41 (fun g7_4 g7_4' => ?_) (fun g7_4 g7_4' => ?_)
   ·refine wz 6 ?_
    refine sz 47 (fun g7_10 g7_10' => ?_) (fun g7_10 g7_10' => ?_)
    ·refine wz 6 ?_
     exact rz rfl (Less.eq (congrArg B (by have h9 := of_decide_eq_false c_13; rw [shB_fin (fun i hi h8 => hok i hi (by omega)), Bool.eq_iff_iff]; simp; omega)))
    refine wz 6 ?_
    exact rz rfl (Less.eq (congrArg B (by have h9 := of_decide_eq_false c_13; rw [shB_fin (fun i hi h8 => hok i hi (by omega)), Bool.eq_iff_iff]; simp; omega)))
   refine wz 12 ?_
   exact rz rfl (Less.eq (congrArg B (by have h9 := of_decide_eq_false c_13; rw [shB_fin (fun i hi h8 => hok i hi (by omega)), Bool.eq_iff_iff]; simp; omega)))
  obtain rfl : k = p.scs.length := by omega
  refine wz 9 ?_
  refine sz 41 (fun g7_4 g7_4' => ?_) (fun g7_4 g7_4' => ?_)
  ·refine wz 6 ?_
   refine sz 47 (fun g7_10 g7_10' => ?_) (fun g7_10 g7_10' => ?_)
   ·refine wz 6 ?_
    exact rz rfl (Less.eq (congrArg B (by rw [shB_fin (fun i hi _ => hok i hi hi), Bool.eq_iff_iff]; simp; omega)))
   refine wz 6 ?_
   exact rz rfl (Less.eq (congrArg B (by rw [shB_fin (fun i hi _ => hok i hi hi), Bool.eq_iff_iff]; simp; omega)))
  refine wz 12 ?_
  exact rz rfl (Less.eq (congrArg B (by rw [shB_fin (fun i hi _ => hok i hi hi), Bool.eq_iff_iff]; simp; omega)))
end Go.Proofs.YtfmpabgblbbcdaaGreatDoor
namespace Go.Proofs.YtfmpabgblbbcdaaGreatDoor
open Go Go.Ab Ni St
open Hd hiding sz
instance en20 : EnT Tryz.prog 20 := ⟨Ent.of Tryz.func20 (by kernel_rfl) rfl⟩
section
variable [Tabs]
section seq
variable {c : Ctx} {ops : Array Oper} {Q : AExit → St → Prop} {rest : List Oper} {s : St} {i : Nat}
variable {d : Option Tmp} {t : TypeId} {p : String} {af : Array Edge}
end seq
section ev
variable {P : Program} {r : Option Nat} {H : List AObj} {ρ : Operand → AV}
variable {d : Option Tmp} {t : TypeId} {p : String} {af : Array Edge} {g : Option (Nat × Bool)}
end ev
end
theorem short_t {p : Ply} (h : shB p = true) : APure Tryz.prog 19 [plA p] (B true) := by have q := short_pure p; rw [h] at q; exact q
theorem short_f {p : Ply} (h : shB p = false) : APure Tryz.prog 19 [plA p] (B false) := by have q := short_pure p; rw [h] at q; exact q
theorem pl_t {p : Ply} (hs : shB p = true) (h : plOK p = true) : APure Tryz.prog 22 [plA p] (B true) := by have q := rplay_pure p (shB_len hs).1 (shB_len hs).2.1 (shB_len hs).2.2.1 (shB_len hs).2.2.2; rw [h] at q; exact q
theorem pl_f {p : Ply} (hs : shB p = true) (h : plOK p = false) : APure Tryz.prog 22 [plA p] (B false) := by have q := rplay_pure p (shB_len hs).1 (shB_len hs).2.1 (shB_len hs).2.2.1 (shB_len hs).2.2.2; rw [h] at q; exact q
end Go.Proofs.YtfmpabgblbbcdaaGreatDoor
namespace Go.Proofs.YtfmpabgblbbcdaaGreatDoor
open Go Go.Ab Ni St
open Hd hiding sz
instance en46 : EnT Tryz.prog 46 := ⟨Ent.of Tryz.func46 (by kernel_rfl) rfl⟩
instance en68 : EnT Tryz.prog 68 := ⟨Ent.of Tryz.func68 (by kernel_rfl) rfl⟩
instance en69 : EnT Tryz.prog 69 := ⟨Ent.of Tryz.func69 (by kernel_rfl) rfl⟩
instance en70 : EnT Tryz.prog 70 := ⟨Ent.of Tryz.func70 (by kernel_rfl) rfl⟩
instance en79 : EnT Tryz.prog 79 := ⟨Ent.of Tryz.func79 (by kernel_rfl) rfl⟩
instance en80 : EnT Tryz.prog 80 := ⟨Ent.of Tryz.func80 (by kernel_rfl) rfl⟩
theorem handsK_bd {p : Ply} (B : PlB p) {x : Scn} (X : ScB p x) : ∀ (k : Nat), k ≤ x.moved.length → 0 ≤ handsK p x k ∧ handsK p x k ≤ 1 + 2 * k
  | 0, _ => by have := X.kn; rw [handsK_0]; omega
  | k + 1, h => by
    have ih := handsK_bd B X k (by omega)
    have hm := mv_at X (show k < x.moved.length by omega)
    have := (fg_B B hm.1 hm.2).2.2
    rw [handsK_succ (show k < x.moved.length by omega)]; omega
def badI (p : Ply) (x : Scn) (l : List Int) (i : Nat) : Prop := l.getD i 0 ∈ l.take i ∨ l.getD i 0 ∈ x.taken ∨ ((rf p x i).side = 1 ∧ p.left ≤ l.getD i 0) ∨ ((rf p x i).side = 2 ∧ l.getD i 0 < p.left)
theorem stands_no {p : Ply} {x : Scn} {l : List Int} {i : Nat} (hi : i < l.length) (h : badI p x l i) : stands p x l = false := by
  unfold stands; rw [decide_eq_false_iff_not]; exact fun q => q i hi h
theorem stands_yes {p : Ply} {x : Scn} {l : List Int} (h : ∀ i, i < l.length → ¬ badI p x l i) : stands p x l = true := by unfold stands; exact decide_eq_true h
theorem ranks_no1 {p : Ply} {x : Scn} {l : List Int} {i : Nat} (hi : i < l.length) (h : (rf p x i).rank < ht p (l.getD i 0)) : ranks p x l = false := by
  unfold ranks; rw [decide_eq_false_iff_not]; intro q; have := (q i hi).1; omega
theorem ranks_no2 {p : Ply} {x : Scn} {l : List Int} {i k : Nat} (hi : i < l.length) (hk : k < l.length) (h : clash p x l i k = true) : ranks p x l = false := by
  unfold ranks; rw [decide_eq_false_iff_not]; intro q; have := (q i hi).2 k hk; rw [h] at this; cases this
theorem ranks_yes {p : Ply} {x : Scn} {l : List Int} (h : ∀ i, i < l.length → ht p (l.getD i 0) ≤ (rf p x i).rank ∧ ∀ k, k < l.length → clash p x l i k = false) : ranks p x l = true := by unfold ranks; exact decide_eq_true h
abbrev lst (p : Ply) (k : Nat) (now : List Int) : List (List Int) := dfs inj p.hts.length k now
def lstK (p : Ply) (k : Nat) (now : List Int) (i : Nat) : List (List Int) := (every i).flatMap fun a => if inj (now ++ [a]) = true then lst p k (now ++ [a]) else []
theorem inj_snoc (now : List Int) (a : Int) : inj (now ++ [a]) = !decide (a ∈ now) := by unfold inj; simp
theorem lstK_yes {p : Ply} {k : Nat} {now : List Int} {i : Nat} (h : ¬ (i : Int) ∈ now) : lstK p k now (i + 1) = lstK p k now i ++ lst p k (now ++ [(i : Int)]) := by
  unfold lstK; rw [show every (i + 1) = every i ++ [(i : Int)] by simp [every, List.range_succ], List.flatMap_append]; simp [inj_snoc, h]
theorem lstK_no {p : Ply} {k : Nat} {now : List Int} {i : Nat} (h : (i : Int) ∈ now) : lstK p k now (i + 1) = lstK p k now i := by
  unfold lstK; rw [show every (i + 1) = every i ++ [(i : Int)] by simp [every, List.range_succ], List.flatMap_append]; simp [inj_snoc, h]
theorem lstK_all (p : Ply) (k : Nat) (now : List Int) : lst p (k + 1) now = lstK p k now p.hts.length := rfl
theorem lst_len {p : Ply} (B : PlB p) {k : Nat} (h : k ≤ 4) (now : List Int) : (lst p k now).length ≤ 1296 := by
  have h1 := dfs_len (ok := inj) (n := p.hts.length) k now
  have h2 : p.hts.length ^ k ≤ 6 ^ k := Nat.pow_le_pow_left B.nh.2 _
  have h3 : 6 ^ k ≤ 6 ^ 4 := Nat.pow_le_pow_right (by decide) h
  unfold lst; omega
theorem flat_len {α β : Type} (f : α → List β) (b : Nat) (h : ∀ a, (f a).length ≤ b) : ∀ l : List α, (l.flatMap f).length ≤ b * l.length
  | [] => by simp
  | a :: l => by have h1 := flat_len f b h l; have h2 := h a; rw [List.flatMap_cons, List.length_append, List.length_cons, Nat.mul_succ]; omega
theorem lstK_len {p : Ply} (B : PlB p) {k : Nat} (h : k ≤ 4) (now : List Int) (i : Nat) : (lstK p k now i).length ≤ 1296 * i := by
  have h1 := flat_len (fun a => if inj (now ++ [a]) = true then lst p k (now ++ [a]) else []) 1296 (fun a => by show (if inj (now ++ [a]) = true then lst p k (now ++ [a]) else []).length ≤ 1296; split; exact lst_len B h _; simp) (every i)
  rw [show (every i).length = i by simp [every]] at h1; exact h1
theorem lst_mem {p : Ply} {k : Nat} {now l : List Int} (hn : ∀ a ∈ now, 0 ≤ a ∧ a < p.hts.length) (h : l ∈ lst p k now) : l.length = now.length + k ∧ ∀ a ∈ l, 0 ≤ a ∧ a < p.hts.length := by
  obtain ⟨h1, h2, h3, _⟩ := mem_dfs.1 h
  refine ⟨h1, fun a ha => ?_⟩
  rw [← List.take_append_drop now.length l, h2] at ha
  rcases List.mem_append.1 ha with ha | ha
  · exact hn a ha
  · exact h3 a ha
theorem arr_lst (b : Bool) (p : Ply) (x : Scn) : arr b p x = (lst p x.rest.length []).filter (suits b p x) := arr_filter b p x
theorem fil_succ {α : Type} {q : α → Bool} {l : List α} {i : Nat} (h : i < l.length) : (l.take (i + 1)).filter q = (l.take i).filter q ++ (if q l[i] = true then [l[i]] else []) := by
  rw [List.take_succ_eq_append_getElem h, List.filter_append]
  congr 1
  by_cases h1 : q l[i] = true
  · rw [if_pos h1, List.filter_cons_of_pos h1]; rfl
  · rw [if_neg h1, List.filter_cons_of_neg h1]; rfl
theorem suits_bnd {p : Ply} {x : Scn} {L : List (List Int)} (e : L = lst p x.rest.length []) {i : Nat} (h : i < L.length) : L[i].length = x.rest.length ∧ ∀ a ∈ L[i], 0 ≤ a ∧ a < p.hts.length := by
  subst e
  have := lst_mem (now := []) (fun a ha => by cases ha) (List.getElem_mem h)
  simpa using this
theorem rhands_pure {p : Ply} (gP : PlB p) {k : Nat} (hk : k < p.scs.length) {x : Scn} (hxe : p.scs[k] = x) (gX : ScB p x) : APure Tryz.prog 68 [plA p, I k] (I (hands p x)) := by
  refine ap Tryz.func68 (fun e0 he0 => ?_)
  refine vz 2 ?_
  refine sq_nil ?_
  refine aw_seq ?_
  have hkn := gX.kn
  have hnf := gP.nf
  have hml := rising_len gX.mv
  refine wz 4 ?_
  refine sq_ev rfl (ev_less (ev_load_agg_i jz ty41.h (by simp)) (Less.eq (b := .agg (scC x)) (by rw [hxe]; rfl))) ?_
  refine wz 8 ?_
  refine aw_loopk (ι := { m : Nat // m ≤ x.moved.length }) [2, 5] (fun i => [(6, I (handsK p x i.1)), (7, I i.1)]) (fun H i => H) (fun i => x.moved.length - i.1) (⟨0, Nat.zero_le _⟩) ⟨Less.eq (by rw [handsK_0] <;> rfl), jz, jz, jz, trivial⟩ rfl ?_
  rintro ⟨m, hm⟩
  refine nz ?_
  have hbd := handsK_bd gP gX m hm
  refine wz 5 ?_
  refine iz (fun c_21 c_21' => ?_) (fun c_21 c_21' => ?_)
  ·have hml2 : m < x.moved.length := by omega
   have hmk := mv_at gX hml2
   have hfb := fg_B gP hmk.1 hmk.2
   rw [fg_at hmk.1 hmk.2] at hfb
   have eS : handsK p x m + (p.figs[(x.moved[m]).toNat]).hands = handsK p x (m + 1) := by rw [handsK_succ hml2, fg_at hmk.1 hmk.2]
   refine wz 0 ?_
   refine aw_draw 12 mo (by kernel_rfl) ?_
   refine dz 8 ?_
   refine dr_ev rfl (ev_index_map (k := (x.moved[m]).toNat) (xs := p.figs) sl23.h jz jz (by have := mv_at gX hml2; omega) (by have := mv_at gX hml2; omega)) ?_
   refine dz 3 ?_
   refine wz 4 ?_
   exact ⟨⟨m + 1, by omega⟩, by simp only; omega, Sub.slots ⟨(by exact less_int eS), jz, jz, jz, trivial⟩⟩
  obtain rfl : m = x.moved.length := by omega
  refine wz 2 ?_
  exact rz rfl (Less.eq (by rw [handsK_all]))
theorem rstands_pure {p : Ply} (gP : PlB p) {k : Nat} (hk : k < p.scs.length) {x : Scn} (hxe : p.scs[k] = x) (gX : ScB p x) {l : List Int} (hr : l.length ≤ x.rest.length) : APure Tryz.prog 80 [plA p, I k, ints l] (B (stands p x l)) := by
  refine ap Tryz.func80 (fun e0 he0 => ?_)
  refine vz 2 ?_
  refine sq_nil ?_
  refine aw_seq ?_
  have hr4 := gX.r4
  have htl := rising_len gX.tk
  have hnh := gP.nh
  refine wz 4 ?_
  refine sq_ev rfl (ev_less (ev_load_agg_i jz ty41.h (by simp)) (Less.eq (b := .agg (scC x)) (by rw [hxe]; rfl))) ?_
  refine wz 3 ?_
  refine aw_loopk (ι := { i : Nat // i ≤ l.length ∧ ∀ j, j < i → ¬ badI p x l j }) [2, 3, 7] (fun g => [(8, I g.1)]) (fun H g => H) (fun g => l.length - g.1) (⟨0, Nat.zero_le _, by omega⟩) ⟨jz, jz, jz, jz, trivial⟩ rfl ?_
  rintro ⟨i, hi, hok⟩
  refine nz ?_
  refine wz 4 ?_
  refine iz (fun c_18 c_18' => ?_) (fun c_18 c_18' => ?_)
  ·have hil : i < l.length := by omega
   have hri : i < x.rest.length := by omega
   have hfi := rs_at gX hri
   have hrf := rf_at gX hri
   have hg := getD_at (d := 0) hil
   refine wz 0 ?_
   refine aw_draw 11 mo (by kernel_rfl) ?_
   refine dz 7 ?_
   refine dr_ev rfl (ev_index_map (k := (x.rest[i]).toNat) (xs := p.figs) sl23.h jz jz (by have := hfi; omega) (by have := hfi; omega)) ?_
   refine dz 3 ?_
   refine wz 0 ?_
   refine aw_draw 43 mo (by kernel_rfl) ?_
   refine dz 2 ?_
   refine dr_ev rfl (ev_less (ev_slice (lo := 0) (hi := i) sl22.h jz rfl (less_int (by omega)) (by omega) (by simp; omega)) (Less.eq (b := ints (l.take i)) (by rw [List.drop_zero, ← List.map_take]))) ?_
   refine dz 4 ?_
   refine dkz az (has_pure _ _ (by rw [List.length_take]; omega)) ?_
   refine dz 1 ?_
   refine dsz 39 (fun g6_8 g6_8' => ?_) (fun g6_8 g6_8' => ?_)
   ·have hno := stands_no (p := p) (x := x) hil (by unfold badI; rw [hg, hrf]; exact .inl (of_decide_eq_true g6_8))
    refine dz 34 ?_
    refine wz 2 ?_
    exact rz rfl (Less.eq (by rw [hno]))
   refine dz 6 ?_
   refine dky az (has_pure _ _ (by omega)) ?_
   refine dz 2 ?_
   refine dsz 48 (fun g6_17 g6_17' => ?_) (fun g6_17 g6_17' => ?_)
   ·have hno := stands_no (p := p) (x := x) hil (by unfold badI; rw [hg, hrf]; exact .inr (.inl (of_decide_eq_true g6_17)))
    refine dz 25 ?_
    refine wz 2 ?_
    exact rz rfl (Less.eq (by rw [hno]))
   refine dz 3 ?_
   refine dsz 51 (fun g6_20 g6_20' => ?_) (fun g6_20 g6_20' => ?_)
   ·refine dz 10 ?_
    refine dsz 61 (fun g6_30 g6_30' => ?_) (fun g6_30 g6_30' => ?_)
    ·have hno := stands_no (p := p) (x := x) hil (by unfold badI; rw [hg, hrf]; exact .inr (.inr (.inl ⟨of_decide_eq_true g6_20, of_decide_eq_true g6_30⟩)))
     refine dz 12 ?_
     refine wz 2 ?_
     exact rz rfl (Less.eq (by rw [hno]))
    refine dz 3 ?_
    refine dsz 64 (fun g6_33 g6_33' => ?_) (fun g6_33 g6_33' => ?_)
    ·refine dz 9 ?_
     refine wz 0 ?_
     refine iz (fun c_73 c_73' => ?_) (fun c_73 c_73' => ?_)
     ·have hno := stands_no (p := p) (x := x) hil (by unfold badI; rw [hg, hrf]; exact .inr (.inr (.inr ⟨of_decide_eq_true g6_33, of_decide_eq_true c_73⟩)))
      refine wz 1 ?_
      exact rz rfl (Less.eq (by rw [hno]))
     have hnb : ¬ badI p x l i := by unfold badI; rw [hg, hrf]; simp_all
     refine wz 3 ?_
     exact ⟨⟨i + 1, by omega, fun j hj => (by rcases Nat.lt_or_ge j i with q | q; exact hok j q; (obtain rfl : j = i := by omega); exact hnb)⟩, by simp only; omega, Sub.slots ⟨jz, jz, jz, jz, trivial⟩⟩
    have hnb : ¬ badI p x l i := by unfold badI; rw [hg, hrf]; simp_all
    refine dz 9 ?_
    refine wz 4 ?_
    exact ⟨⟨i + 1, by omega, fun j hj => (by rcases Nat.lt_or_ge j i with q | q; exact hok j q; (obtain rfl : j = i := by omega); exact hnb)⟩, by simp only; omega, Sub.slots ⟨jz, jz, jz, jz, trivial⟩⟩
   refine dz 13 ?_
   refine dsz 64 (fun g6_33 g6_33' => ?_) (fun g6_33 g6_33' => ?_)
   ·refine dz 9 ?_
    refine wz 0 ?_
    refine iz (fun c_73 c_73' => ?_) (fun c_73 c_73' => ?_)
    ·have hno := stands_no (p := p) (x := x) hil (by unfold badI; rw [hg, hrf]; exact .inr (.inr (.inr ⟨of_decide_eq_true g6_33, of_decide_eq_true c_73⟩)))
     refine wz 1 ?_
     exact rz rfl (Less.eq (by rw [hno]))
    have hnb : ¬ badI p x l i := by unfold badI; rw [hg, hrf]; simp_all
    refine wz 3 ?_
    exact ⟨⟨i + 1, by omega, fun j hj => (by rcases Nat.lt_or_ge j i with q | q; exact hok j q; (obtain rfl : j = i := by omega); exact hnb)⟩, by simp only; omega, Sub.slots ⟨jz, jz, jz, jz, trivial⟩⟩
   have hnb : ¬ badI p x l i := by unfold badI; rw [hg, hrf]; simp_all
   refine dz 9 ?_
   refine wz 4 ?_
   exact ⟨⟨i + 1, by omega, fun j hj => (by rcases Nat.lt_or_ge j i with q | q; exact hok j q; (obtain rfl : j = i := by omega); exact hnb)⟩, by simp only; omega, Sub.slots ⟨jz, jz, jz, jz, trivial⟩⟩
  obtain rfl : i = l.length := by omega
  have hall := stands_yes (fun j hj => hok j hj)
  refine wz 1 ?_
  exact rz rfl (Less.eq (by rw [hall]))
theorem rrests_pure {p : Ply} (gP : PlB p) {k : Nat} (hk : k < p.scs.length) {x : Scn} (hxe : p.scs[k] = x) (gX : ScB p x) {l : List Int} (hl : l.length = x.rest.length) (hm : ∀ a ∈ l, 0 ≤ a ∧ a < p.hts.length) : APure Tryz.prog 70 [plA p, I k, ints l] (B (suits true p x l)) := by
  refine ap Tryz.func70 (fun e0 he0 => ?_)
  refine vz 2 ?_
  refine sq_nil ?_
  refine aw_seq ?_
  have hr4 := gX.r4
  have hnh := gP.nh
  have hnf := gP.nf
  have hss := suits_ranks gP gX hl
  refine wz 4 ?_
  refine sq_ev rfl (ev_less (ev_load_agg_i jz ty41.h (by simp)) (Less.eq (b := .agg (scC x)) (by rw [hxe]; rfl))) ?_
  refine wz 3 ?_
  refine aw_loopk (ι := { i : Nat // i ≤ l.length ∧ ∀ j, j < i → ht p (l.getD j 0) ≤ (rf p x j).rank ∧ ∀ u, u < l.length → clash p x l j u = false }) [1, 2, 3, 7] (fun g => [(8, I g.1)]) (fun H g => H) (fun g => l.length - g.1) (⟨0, Nat.zero_le _, by omega⟩) ⟨jz, jz, jz, jz, jz, trivial⟩ rfl ?_
  rintro ⟨i, hi, hok⟩
  refine nz ?_
  refine wz 4 ?_
  refine iz (fun c_19 c_19' => ?_) (fun c_19 c_19' => ?_)
  ·have hil : i < l.length := by omega
   have hri : i < x.rest.length := by omega
   have hfi := rs_at gX hri
   have hrf := rf_at gX hri
   have hg := getD_at (d := 0) hil
   have hmi := hm _ (List.getElem_mem hil)
   refine wz 0 ?_
   refine aw_draw 10 mo (by kernel_rfl) ?_
   refine dz 7 ?_
   refine dr_ev rfl (ev_index_map (k := (x.rest[i]).toNat) (xs := p.figs) sl23.h jz jz (by have := hfi; omega) (by have := hfi; omega)) ?_
   refine dz 1 ?_
   refine dr_alloc rfl z82.h ?_
   refine dr_end ?_
   refine wz 1 ?_
   refine aw_draw 11 mo (by kernel_rfl) ?_
   refine dz 6 ?_
   refine dr_ev rfl (ev_index_map (k := (l[i]).toNat) (xs := p.hts) sl22.h jz jz (by have := hmi; omega) (by have := hmi; omega)) ?_
   refine dz 4 ?_
   refine wz 0 ?_
   refine iz (fun c_41 c_41' => ?_) (fun c_41 c_41' => ?_)
   ·have hno : suits true p x l = false := by rw [hss, ranks_no1 hil (by rw [hg, hrf, ht_at hmi.1 hmi.2]; omega)]; rfl
    refine wz 1 ?_
    exact rz rfl (Less.eq (by rw [hno]))
   have hle : ht p (l.getD i 0) ≤ (rf p x i).rank := by rw [hg, hrf, ht_at hmi.1 hmi.2]; omega
   refine wz 1 ?_
   refine aw_loopk (ι := { u : Nat // u ≤ l.length ∧ ∀ v, v < u → clash p x l i v = false }) [1, 2, 3, 7, 8, 9] (fun y => [(10, I y.1)]) (fun H y => H) (fun y => l.length - y.1) (⟨0, Nat.zero_le _, by omega⟩) ⟨jz, jz, jz, jz, jz, jz, jz, trivial⟩ rfl ?_
   rintro ⟨u, hu, hok2⟩
   refine nz ?_
   refine wz 4 ?_
   refine iz (fun c_45 c_45' => ?_) (fun c_45 c_45' => ?_)
   ·have huL : u < l.length := by omega
    have huR : u < x.rest.length := by omega
    have hfu := rs_at gX huR
    have hmu := hm _ (List.getElem_mem huL)
    have hcl : clash p x l i u = ((lf p l[i] == lf p l[u]) && decide ((p.figs[(x.rest[i]).toNat]).rank < (p.figs[(x.rest[u]).toNat]).rank ∧ p.hts[(l[u]).toNat] < p.hts[(l[i]).toNat])) := by unfold clash; rw [getD_at hil, getD_at huL, rf_at gX hri, rf_at gX huR, ht_at hmi.1 hmi.2, ht_at hmu.1 hmu.2]
    refine wz 0 ?_
    refine aw_draw 49 mo (by kernel_rfl) ?_
    refine dz 16 ?_
    refine dsz 63 (fun g11_15 g11_15' => ?_) (fun g11_15 g11_15' => ?_)
    ·refine dz 9 ?_
     refine dr_yes rfl rfl (less_b g11_15) rfl (ev_index_map (k := (x.rest[u]).toNat) (xs := p.figs) sl23.h jz jz (by have := hfu; omega) (by have := hfu; omega)) ?_
     refine dz 5 ?_
     refine dsz 78 (fun g11_30 g11_30' => ?_) (fun g11_30 g11_30' => ?_)
     ·refine dz 6 ?_
      refine dr_yes rfl rfl (less_b g11_30) rfl (ev_index_map (k := (l[i]).toNat) (xs := p.hts) sl22.h jz jz (by have := hmi; omega) (by have := hmi; omega)) ?_
      refine dz 7 ?_
      refine dr_yes rfl rfl (less_b g11_30) rfl (ev_index_map (k := (l[u]).toNat) (xs := p.hts) sl22.h jz jz (by have := hmu; omega) (by have := hmu; omega)) ?_
      refine dz 3 ?_
      refine wz 0 ?_
      refine iz (fun c_96 c_96' => ?_) (fun c_96 c_96' => ?_)
      ·have hno : suits true p x l = false := by rw [hss, ranks_no2 hil huL (by rw [hcl]; unfold lf; simp_all)]; rfl
       refine wz 1 ?_
       exact rz rfl (Less.eq (by rw [hno]))
      have hnc : clash p x l i u = false := by rw [hcl, decide_eq_false (p := _ ∧ _) (fun q => by have := of_decide_eq_false c_96; omega), Bool.and_false]
      refine wz 3 ?_
      exact ⟨⟨u + 1, by omega, fun v hv => (by rcases Nat.lt_or_ge v u with q | q; exact hok2 v q; (obtain rfl : v = u := by omega); exact hnc)⟩, by simp only; omega, Sub.slots ⟨jz, jz, jz, jz, jz, jz, jz, trivial⟩⟩
     have hnc : clash p x l i u = false := by rw [hcl, decide_eq_false (p := _ ∧ _) (fun q => by have := of_decide_eq_false g11_30; omega), Bool.and_false]
     refine dz 18 ?_
     refine wz 4 ?_
     exact ⟨⟨u + 1, by omega, fun v hv => (by rcases Nat.lt_or_ge v u with q | q; exact hok2 v q; (obtain rfl : v = u := by omega); exact hnc)⟩, by simp only; omega, Sub.slots ⟨jz, jz, jz, jz, jz, jz, jz, trivial⟩⟩
    have hnc : clash p x l i u = false := by rw [hcl]; unfold lf; simp_all
    refine dz 33 ?_
    refine wz 4 ?_
    exact ⟨⟨u + 1, by omega, fun v hv => (by rcases Nat.lt_or_ge v u with q | q; exact hok2 v q; (obtain rfl : v = u := by omega); exact hnc)⟩, by simp only; omega, Sub.slots ⟨jz, jz, jz, jz, jz, jz, jz, trivial⟩⟩
   obtain rfl : u = l.length := by omega
   refine wz 3 ?_
   exact ⟨⟨i + 1, by omega, fun j hj => (by rcases Nat.lt_or_ge j i with q | q; exact hok j q; (obtain rfl : j = i := by omega); exact ⟨hle, fun u hu => hok2 u hu⟩)⟩, by simp only; omega, sb 2 ⟨jz, jz, jz, jz, jz, trivial⟩⟩
  obtain rfl : i = l.length := by omega
  have hall := ranks_yes (fun j hj => hok j hj)
  refine wz 3 ?_
  refine kz az (rstands_pure gP hk hxe gX (by omega)) ?_
  refine wz 1 ?_
  exact rz rfl (Less.eq (by rw [hss, hall, Bool.true_and]))
theorem rlists_step {p : Ply} (gP : PlB p) (mm : Nat) (ih : ∀ k, mm = k + 1 → ∀ now : List Int, now.length + k ≤ 4 → APure Tryz.prog 79 [plA p, ints now, I (now.length + k : Nat)] (hds (lst p k now))) (now : List Int) (hl : now.length + mm ≤ 4) : APure Tryz.prog 79 [plA p, ints now, I (now.length + mm : Nat)] (hds (lst p mm now)) := by
  refine ap Tryz.func79 (fun e0 he0 => ?_)
  refine vz 2 ?_
  refine sq_nil ?_
  refine aw_seq ?_
  refine aw_seq ?_
  have hnh := gP.nh
  refine wz 4 ?_
  refine iz (fun c_12 c_12' => ?_) (fun c_12 c_12' => ?_)
  ·obtain rfl : mm = 0 := by omega
   refine wz 1 ?_
   refine sq_ev rfl (ev_less (ev_buildSlice (es := [[_]]) sf61.h rfl rfl rfl rfl) (less_slx _ _)) ?_
   refine wz 1 ?_
   exact retQ_pure (v := .sl _ _) rfl rfl (Less.eq rfl)
  obtain ⟨k, rfl⟩ : ∃ k, mm = k + 1 := ⟨mm - 1, by omega⟩
  refine vz 2 ?_
  refine sq_nil ?_
  refine aw_block ?_
  refine aw_sub (sub_token 7 1 jz) ?_
  refine aw_loopk (ι := { k : Nat // k ≤ p.hts.length }) [1, 2, 3] (fun i => [(8, I i.1), (7, .own 1 1 ((lstK p k now i.1).map fun h => [ints h]))]) (fun H i => H.set 1 (.tok ((lstK p k now i.1).map fun h => [ints h]).length)) (fun i => p.hts.length - i.1) (⟨0, Nat.zero_le _⟩) ⟨jz, jz, jz, jz, jz, trivial⟩ rfl ?_
  rintro ⟨i, hi⟩
  refine nz ?_
  have hll := lstK_len gP (k := k) (by omega) now i
  have hl2 := lst_len gP (k := k) (by omega) (now ++ [(i : Int)])
  refine wz 5 ?_
  refine iz (fun c_19 c_19' => ?_) (fun c_19 c_19' => ?_)
  ·have hin : i < p.hts.length := by omega
   refine wz 2 ?_
   refine kz az (has_pure _ _ (by omega)) ?_
   refine wz 1 ?_
   refine iz (fun c_25 c_25' => ?_) (fun c_25 c_25' => ?_)
   ·have hnm : ¬ (i : Int) ∈ now := by simpa using c_25
    have eS : (lstK p k now (i + 1)).map (fun h => [ints h]) = (lstK p k now i).map (fun h => [ints h]) ++ (lst p k (now ++ [(i : Int)])).map (fun h => [ints h]) := by rw [lstK_yes hnm, List.map_append]
    refine aw_drawc [] [3, 6, 9] _ mo (by kernel_rfl) (HSub.mask [1] 0 _) ?_
    first | refine dc_ev rfl (ev_mv (v := .sl _ _) jz) ?_ | refine dc_ev rfl (ev_mv (v := .own _ _ _) jz) ?_ | refine dc_ev rfl (ev_mv (v := .raw _) jz) ?_ | refine dc_ev rfl (ev_mv (v := .slx _ _) jz) ?_ | refine dc_ev rfl (ev_mv (v := .msl _ _ _ _) jz) ?_
    first | refine dc_ev rfl (ev_load_agg jz rfl ty26.h rfl) ?_ | refine dc_ev rfl (ev_load_agg_i jz ty26.h (by exact Nat.le_of_ble_eq_true rfl)) ?_
    first | refine dc_ev rfl (ev_mv (v := .sl _ _) jz) ?_ | refine dc_ev rfl (ev_mv (v := .own _ _ _) jz) ?_ | refine dc_ev rfl (ev_mv (v := .raw _) jz) ?_ | refine dc_ev rfl (ev_mv (v := .slx _ _) jz) ?_ | refine dc_ev rfl (ev_mv (v := .msl _ _ _ _) jz) ?_
    refine dc_eff rfl rfl (eff_append_new rfl sf22.h Tryz.underlying22 (less_nilx _) jz (by simp; omega) (by simp; omega)) (by apply HL.sub; repeat' (first | exact HL.nil _ | apply HL.same | apply HL.tok)) ?_
    refine dc_ev rfl (ev_mv (v := .raw _) jz) ?_
    refine dc_ev rfl (ev_buildSlice (es := [[_]]) sf22.h rfl rfl rfl rfl) ?_
    refine dc_eff rfl rfl (eff_append rfl sf22.h Tryz.underlying22 rfl rfl (less_slx _ _) (by simp; omega) (by simp; omega)) (by apply HL.sub; repeat' (first | exact HL.nil _ | apply HL.same | apply HL.tok)) ?_
    refine dc_ev rfl (ev_mv (v := .raw _) jz) ?_
    refine dc_ev rfl (ev_call en79.h jz (ih k rfl (now ++ [(i : Int)]) (by simp; omega)) ⟨jz, Less.trans (less_own _ _ _) (Less.eq (by simp)), (by exact less_int (by simp; omega)), trivial⟩) ?_
    refine dc_eff rfl rfl (eff_append rfl sf61.h Tryz.underlying61 rfl rfl jz (by simp; omega) (by simp; omega)) (by apply HL.sub; repeat' (first | exact HL.nil _ | apply HL.same | apply HL.tok)) ?_
    first | refine dc_ev rfl (ev_as (v := .sl _ _) jz) ?_ | refine dc_ev rfl (ev_as (v := .own _ _ _) jz) ?_ | refine dc_ev rfl (ev_as (v := .raw _) jz) ?_ | refine dc_ev rfl (ev_as (v := .slx _ _) jz) ?_ | refine dc_ev rfl (ev_as (v := .msl _ _ _ _) jz) ?_
    refine dc_nil ?_
    refine wz 3 ?_
    exact ⟨⟨i + 1, by omega⟩, by simp only; omega, sb 2 ⟨jz, Less.eq (by rw [eS] <;> rfl), jz, jz, jz, trivial⟩ (hH := (congrArg (fun n => [_, AObj.tok n]) (congrArg List.length eS.symm)))⟩
   have hnm : (i : Int) ∈ now := by simpa using c_25
   have eS : (lstK p k now (i + 1)).map (fun h => [ints h]) = (lstK p k now i).map (fun h => [ints h]) := by rw [lstK_no hnm]
   refine wz 3 ?_
   exact ⟨⟨i + 1, by omega⟩, by simp only; omega, sb 2 ⟨jz, Less.eq (by rw [eS] <;> rfl), jz, jz, jz, trivial⟩ (hH := (congrArg (fun n => [_, AObj.tok n]) (congrArg List.length eS.symm)))⟩
  obtain rfl : i = p.hts.length := by omega
  refine wz 2 ?_
  exact retQ_pure (v := .own _ _ _) rfl rfl (Less.trans (less_own _ _ _) (Less.eq (by rw [lstK_all])))
theorem rlists_pure {p : Ply} (gP : PlB p) : ∀ (mm : Nat) (now : List Int), now.length + mm ≤ 4 → APure Tryz.prog 79 [plA p, ints now, I (now.length + mm : Nat)] (hds (lst p mm now))
  | 0, now, h => rlists_step gP 0 (fun k e => by omega) now h
  | m + 1, now, h => rlists_step gP (m + 1) (fun k e now h => by
      have e2 := Nat.succ.inj e
      subst e2
      exact rlists_pure gP m now h) now h
theorem rlists0 {p : Ply} (gP : PlB p) {m : Nat} (h : m ≤ 4) : APure Tryz.prog 79 [plA p, ints [], I m] (hds (lst p m [])) := by
  have := rlists_pure gP m [] (by simpa using h)
  simpa using this
theorem rall_pure {p : Ply} (gP : PlB p) {k : Nat} (hk : k < p.scs.length) {x : Scn} (hxe : p.scs[k] = x) (gX : ScB p x) : APure Tryz.prog 46 [plA p, I k] (hds (arr true p x)) := by
  refine ap Tryz.func46 (fun e0 he0 => ?_)
  refine vz 2 ?_
  refine sq_nil ?_
  refine aw_seq ?_
  have hr4 := gX.r4
  have hlen := lst_len gP (k := x.rest.length) gX.r4 []
  refine aw_draw 10 mo (by kernel_rfl) ?_
  refine dz 4 ?_
  refine dr_ev rfl (ev_less (ev_index_map (k := k) (xs := p.scs) sl24.h jz jz rfl hk) (Less.eq (b := .iptr (scC x)) (by rw [hxe]))) ?_
  refine dz 3 ?_
  refine dr_ev rfl (ev_call en79.h jz (rlists0 gP gX.r4) ⟨jz, less_nil 1, jz, trivial⟩) ?_
  refine dz 1 ?_
  refine vz 2 ?_
  refine sq_nil ?_
  refine aw_block ?_
  refine aw_sub (sub_token 6 1 jz) ?_
  refine aw_loopk (ι := { k : Nat // k ≤ (lst p x.rest.length []).length }) [1, 2, 5] (fun i => [(7, I i.1), (6, .own 1 1 ((((lst p x.rest.length []).take i.1).filter (suits true p x)).map fun h => [ints h]))]) (fun H i => H.set 1 (.tok ((((lst p x.rest.length []).take i.1).filter (suits true p x)).map fun h => [ints h]).length)) (fun i => (lst p x.rest.length []).length - i.1) (⟨0, Nat.zero_le _⟩) ⟨jz, jz, jz, jz, jz, trivial⟩ rfl ?_
  rintro ⟨i, hi⟩
  refine nz ?_
  have hfl : (((lst p x.rest.length []).take i).filter (suits true p x)).length ≤ i := Nat.le_trans (List.length_filter_le _ _) (by rw [List.length_take]; omega)
  refine wz 4 ?_
  refine iz (fun c_20 c_20' => ?_) (fun c_20 c_20' => ?_)
  ·have hil : i < (lst p x.rest.length []).length := by omega
   refine wz 0 ?_
   refine aw_draw 7 mo (by kernel_rfl) ?_
   refine dz 4 ?_
   refine dr_ev rfl (ev_index_map (k := i) (xs := lst p x.rest.length []) sl61.h jz jz rfl hil) ?_
   refine dz 1 ?_
   refine dkz az (rrests_pure gP hk hxe gX (suits_bnd rfl hil).1 (suits_bnd rfl hil).2) ?_
   refine dr_end ?_
   refine wz 0 ?_
   refine iz (fun c_29 c_29' => ?_) (fun c_29 c_29' => ?_)
   ·have eS : (((lst p x.rest.length []).take (i + 1)).filter (suits true p x)).map (fun h => [ints h]) = (((lst p x.rest.length []).take i).filter (suits true p x)).map (fun h => [ints h]) ++ [[ints (lst p x.rest.length [])[i]]] := by rw [fil_succ hil, if_pos c_29, List.map_append]; rfl
    refine wz 3 ?_
    refine sq_ev rfl (ev_index_map (k := i) (xs := lst p x.rest.length []) sl61.h jz jz rfl hil) ?_
    refine wz 1 ?_
    refine sq_ev rfl (ev_buildSlice (es := [[_]]) sf61.h rfl rfl rfl rfl) ?_
    first | refine sq_append rfl sf61.h Tryz.underlying61 rfl rfl jz (Nat.succ_pos _) (by simp; omega) (by simp; omega) ?_ | refine sq_append rfl sf61.h Tryz.underlying61 rfl rfl (less_slx _ _) (Nat.succ_pos _) (by simp; omega) (by simp; omega) ?_
    refine wz 4 ?_
    exact ⟨⟨i + 1, by omega⟩, by simp only; omega, sb 2 ⟨jz, Less.eq (by rw [eS] <;> rfl), jz, jz, jz, trivial⟩ (hH := (congrArg (fun n => [_, AObj.tok n]) (congrArg List.length eS.symm)))⟩
   have eS : (((lst p x.rest.length []).take (i + 1)).filter (suits true p x)).map (fun h => [ints h]) = (((lst p x.rest.length []).take i).filter (suits true p x)).map (fun h => [ints h]) := by rw [fil_succ hil, if_neg (by rw [c_29]; simp), List.append_nil]
   refine wz 3 ?_
   exact ⟨⟨i + 1, by omega⟩, by simp only; omega, sb 2 ⟨jz, Less.eq (by rw [eS] <;> rfl), jz, jz, jz, trivial⟩ (hH := (congrArg (fun n => [_, AObj.tok n]) (congrArg List.length eS.symm)))⟩
  obtain rfl : i = (lst p x.rest.length []).length := by omega
  refine wz 2 ?_
  exact retQ_pure (v := .own _ _ _) rfl rfl (Less.trans (less_own _ _ _) (Less.eq (by rw [List.take_length, arr_lst])))
theorem rcan_pure {p : Ply} (gP : PlB p) {k : Nat} (hk : k < p.scs.length) {x : Scn} (hxe : p.scs[k] = x) (gX : ScB p x) : APure Tryz.prog 69 [plA p, I k] (B (St.can p x)) := by
  refine ap Tryz.func69 (fun e0 he0 => ?_)
  refine vz 2 ?_
  refine sq_nil ?_
  refine aw_seq ?_
  have hal := arr_len gP gX true
  have hie : (!(arr true p x).isEmpty) = decide (((arr true p x).length : Int) > 0) := by rw [Bool.eq_iff_iff]; cases arr true p x <;> simp
  refine wz 2 ?_
  refine kz az (rhands_pure gP hk hxe gX) ?_
  refine wz 2 ?_
  refine sz 9 (fun g1_4 g1_4' => ?_) (fun g1_4 g1_4' => ?_)
  ·refine wz 2 ?_
   refine ky az (rall_pure gP hk hxe gX) ?_
   refine wz 4 ?_
   exact rz rfl (Less.eq (congrArg B (by unfold St.can; rw [hie]; simp [*])))
  refine wz 7 ?_
  exact rz rfl (Less.eq (congrArg B (by unfold St.can; rw [hie]; simp [*])))
end Go.Proofs.YtfmpabgblbbcdaaGreatDoor
namespace Go.Proofs.YtfmpabgblbbcdaaGreatDoor
open Go Go.Ab Ni St
open Hd hiding sz
theorem scn_t {p : Ply} {n : Int} (hs : shB p = true) (h : scIn p n = true) : APure Tryz.prog 26 [plA p, I n] (B true) := by have q := rscn_pure p n (shB_len hs).2.2.1; rw [h] at q; exact q
theorem scn_f {p : Ply} {n : Int} (hs : shB p = true) (h : scIn p n = false) : APure Tryz.prog 26 [plA p, I n] (B false) := by have q := rscn_pure p n (shB_len hs).2.2.1; rw [h] at q; exact q
theorem bad_of1 {p : Ply} {n : Int} (h : plOK p = false) : (plOK p && scIn p n) = false := by rw [h]; rfl
theorem bad_of2 {p : Ply} {n : Int} (h : scIn p n = false) : (plOK p && scIn p n) = false := by rw [h]; simp
end Go.Proofs.YtfmpabgblbbcdaaGreatDoor
namespace Go.Proofs.YtfmpabgblbbcdaaGreatDoor
open Go Go.Ab Ni St
open Hd hiding sz
instance en103 : EnT Tryz.prog 103 := ⟨Ent.of Tryz.func103 (by kernel_rfl) rfl⟩
instance en59 : EnT Tryz.prog 59 := ⟨Ent.of Tryz.func59 (by kernel_rfl) rfl⟩
theorem cnt_at {l : List Int} {n : Int} (hs : l.Pairwise (· ≤ ·)) {i : Nat} (hi : i ≤ l.length) (h1 : ∀ j, (h : j < l.length) → j < i → l[j] < n) (h2 : ∀ h : i < l.length, ¬ l[i] < n) : l.countP (· < n) = i := by
  have e : l.countP (· < n) = (l.take i).countP (· < n) + (l.drop i).countP (· < n) := by rw [← List.countP_append, List.take_append_drop]
  have e1 : (l.take i).countP (· < n) = i := by
    have : (l.take i).countP (· < n) = (l.take i).length := List.countP_eq_length.2 fun a ha => by
      obtain ⟨j, hj, rfl⟩ := List.getElem_of_mem ha
      rw [List.length_take] at hj
      rw [List.getElem_take]
      exact decide_eq_true (h1 j (by omega) (by omega))
    rw [this, List.length_take]; omega
  have e2 : (l.drop i).countP (· < n) = 0 := List.countP_eq_zero.2 fun a ha => by
    obtain ⟨j, hj, rfl⟩ := List.getElem_of_mem ha
    rw [List.length_drop] at hj
    rw [List.getElem_drop]
    have h3 := h2 (by omega)
    have h4 : l[i]'(by omega) ≤ l[i + j]'(by omega) := by
      rcases Nat.eq_zero_or_pos j with q | q
      · subst q; exact Int.le_refl _
      · exact List.pairwise_iff_getElem.1 hs i (i + j) (by omega) (by omega) (by omega)
    rw [decide_eq_true_eq]; omega
  omega
theorem rput_pure (l : List Int) (n : Int) (hl : l.length ≤ 1000000) (hs : l.Pairwise (· ≤ ·)) : APure Tryz.prog 103 [ints l, I n] (ints (withN l n)) := by
  refine ap Tryz.func103 (fun e0 he0 => ?_)
  refine vz 3 ?_
  refine sq_nil ?_
  refine aw_block ?_
  refine aw_sub (sub_token 5 1 jz) ?_
  refine aw_loopk (ι := { k : Nat // k ≤ l.length ∧ ∀ j, (h : j < l.length) → j < k → l[j] < n }) [0, 1] (fun i => [(6, I i.1), (5, .own 0 1 ((l.take i.1).map (fun x => [I x])))]) (fun H i => H.set 0 (.tok ((l.take i.1).map (fun x => [I x])).length)) (fun i => l.length - i.1) (⟨0, Nat.zero_le _, by omega⟩) ⟨jz, jz, jz, jz, trivial⟩ rfl ?_
  rintro ⟨k, hk, hlt⟩
  refine nz ?_
  refine wz 5 ?_
  refine sz 12 (fun g3_4 g3_4' => ?_) (fun g3_4 g3_4' => ?_)
  ·have hkL : k < l.length := by omega
   refine wz 7 ?_
   refine iz (fun c_19 c_19' => ?_) (fun c_19 c_19' => ?_)
   ·have hkn : l[k] < n := by simpa using c_19
    have eS : ((l.take (k + 1)).map fun x => [I x]) = ((l.take k).map fun x => [I x]) ++ [[I l[k]]] := by rw [List.take_succ_eq_append_getElem hkL, List.map_append]; rfl
    refine wz 5 ?_
    refine sq_ev rfl (ev_buildSlice (es := [[_]]) sf22.h rfl rfl rfl rfl) ?_
    first | refine sq_append rfl sf22.h Tryz.underlying22 rfl rfl jz (Nat.succ_pos _) (by simp; omega) (by simp; omega) ?_ | refine sq_append rfl sf22.h Tryz.underlying22 rfl rfl (less_slx _ _) (Nat.succ_pos _) (by simp; omega) (by simp; omega) ?_
    refine wz 4 ?_
    exact ⟨⟨k + 1, by omega, fun j h hj => (by by_cases e : j = k; (subst e; exact hkn); exact hlt j h (by omega))⟩, by simp only; omega, sb 1 ⟨jz, Less.eq (b := .own 0 1 ((l.take (k + 1)).map (fun x => [I x]))) (by rw [eS] <;> rfl), jz, jz, trivial⟩ (hH := (congrArg (fun n => [AObj.tok n]) (congrArg List.length eS.symm)))⟩
   have hcn : l.countP (· < n) = k := cnt_at hs hk hlt (fun h => by simpa using c_19)
   refine wz 5 ?_
   refine sq_ev rfl (ev_buildSlice (es := [[_]]) sf22.h rfl rfl rfl rfl) ?_
   first | refine sq_append rfl sf22.h Tryz.underlying22 rfl rfl jz (Nat.succ_pos _) (by simp; omega) (by simp; omega) ?_ | refine sq_append rfl sf22.h Tryz.underlying22 rfl rfl (less_slx _ _) (Nat.succ_pos _) (by simp; omega) (by simp; omega) ?_
   refine wz 4 ?_
   refine sq_ev rfl (ev_less (ev_slice (lo := k) (hi := l.length) sl22.h jz (by exact less_int (by simp; omega)) (by simp) (by omega) (by simp)) (Less.eq (b := ints (l.drop k)) (by rw [List.take_of_length_le (by simp), ← List.map_drop]))) ?_
   refine sq_append' rfl sf22.h Tryz.underlying22 rfl rfl jz (by simp; omega) (by simp; omega) ?_
   refine wz 1 ?_
   exact retQ_pure (v := .own _ _ _) rfl rfl (Less.trans (less_own _ _ _) (Less.eq (by unfold withN insL; rw [hcn]; simp)))
  have hcn : l.countP (· < n) = k := cnt_at hs hk hlt (fun h => by simp at g3_4; omega)
  refine wz 13 ?_
  refine sq_ev rfl (ev_buildSlice (es := [[_]]) sf22.h rfl rfl rfl rfl) ?_
  first | refine sq_append rfl sf22.h Tryz.underlying22 rfl rfl jz (Nat.succ_pos _) (by simp; omega) (by simp; omega) ?_ | refine sq_append rfl sf22.h Tryz.underlying22 rfl rfl (less_slx _ _) (Nat.succ_pos _) (by simp; omega) (by simp; omega) ?_
  refine wz 4 ?_
  refine sq_ev rfl (ev_less (ev_slice (lo := k) (hi := l.length) sl22.h jz (by exact less_int (by simp; omega)) (by simp) (by omega) (by simp)) (Less.eq (b := ints (l.drop k)) (by rw [List.take_of_length_le (by simp), ← List.map_drop]))) ?_
  refine sq_append' rfl sf22.h Tryz.underlying22 rfl rfl jz (by simp; omega) (by simp; omega) ?_
  refine wz 1 ?_
  exact retQ_pure (v := .own _ _ _) rfl rfl (Less.trans (less_own _ _ _) (Less.eq (by unfold withN insL; rw [hcn]; simp)))
theorem copS2_call0 {p : Ply} {o0 : AObj} {o1 : AObj} (hh : 0 < p.hts.length ∧ p.hts.length ≤ 1000000) (hf : 0 < p.figs.length ∧ p.figs.length ≤ 1000000) (hs : 0 < p.scs.length ∧ p.scs.length ≤ 1000000) : ACall Tryz.prog 59 [plA p] [o0, o1] (fun y H' => ∃ cap l1 l2, p.scs.length ≤ cap ∧ y = .ret (.agg [I p.left, ints p.hts, fgs p.figs, .msl 6 0 p.scs.length cap]) ∧ H' = [o0, o1, .cells l1, .cells l2, .dead, .dead, .cells ((p.scs.map scC).flatten ++ List.replicate ((cap - p.scs.length) * 4) .any)]) := by
  refine acall_of (rs := [.cell 2 26]) Tryz.func59 rfl rfl (Nat.le_of_ble_eq_true rfl) fun e0 he0 => ?_
  refine wz 4 ?_
  refine sq_append_msl2 rfl sf22.h Tryz.underlying22 (less_nilx _) jz (by simpa using hh.1) (by simp; omega) (by simp; omega) (fun c1 hc1 hc1b => ?_)
  simp only [List.length_map] at hc1 hc1b ⊢
  refine nz ?_
  refine wz 4 ?_
  refine sq_append_msl2 rfl sf23.h Tryz.underlying23 (less_nilx _) jz (by simpa using hf.1) (by simp; omega) (by simp; omega) (fun c2 hc2 hc2b => ?_)
  simp only [List.length_map] at hc2 hc2b ⊢
  refine nz ?_
  refine wz 4 ?_
  refine sq_append_msl2 rfl sf24.h Tryz.underlying24 (less_nilx _) jz (by simpa using hs.1) (by simp; omega) (by simp; omega) (fun c3 hc3 hc3b => ?_)
  simp only [List.length_map] at hc3 hc3b ⊢
  refine nz ?_
  refine vz 2 ?_
  refine sq_nil ?_
  refine aw_seq ?_
  refine aw_sub (sub_freeze (j := 4) (n := p.hts.length) (cap := c1) (sz := 1) (es := p.hts.map (fun x => [I x])) (rest := List.replicate ((c1 - p.hts.length) * 1) .any) (sl' := [(1, .ptr 2 0), (2, .ptr 3 0)]) rfl (by simp) (fun q hq => by obtain ⟨x, _, rfl⟩ := List.mem_map.1 hq; rfl) (fun q hq => ?_) (FzH.same _ (by decide) (FzH.same _ (by decide) (FzH.cells (by decide) (FzL.cons (Fz.same _) (FzL.cons Fz.frozen (FzL.cons (Fz.same _) (FzL.cons (Fz.same _) FzL.nil)))) (FzH.same _ (by decide) (FzH.dead _ rfl (FzH.same _ (by decide) (FzH.same _ (by decide) (FzH.nil _))))))))) ?_
  ·simp only [List.mem_cons, List.not_mem_nil, or_false] at hq; rcases hq with rfl | rfl <;> exact Fz.same _
  refine nz ?_
  refine aw_sub (sub_freeze (j := 5) (n := p.figs.length) (cap := c2) (sz := 3) (es := p.figs.map fgC) (rest := List.replicate ((c2 - p.figs.length) * 3) .any) (sl' := [(1, .ptr 2 0), (2, .ptr 3 0)]) rfl (by simp) (fun q hq => by obtain ⟨x, _, rfl⟩ := List.mem_map.1 hq; rfl) (fun q hq => ?_) (FzH.same _ (by decide) (FzH.same _ (by decide) (FzH.cells (by decide) (FzL.cons (Fz.same _) (FzL.cons (Fz.same _) (FzL.cons Fz.frozen (FzL.cons (Fz.same _) FzL.nil)))) (FzH.same _ (by decide) (FzH.same _ (by decide) (FzH.dead _ rfl (FzH.same _ (by decide) (FzH.nil _))))))))) ?_
  ·simp only [List.mem_cons, List.not_mem_nil, or_false] at hq; rcases hq with rfl | rfl <;> exact Fz.same _
  refine nz ?_
  refine wz 2 ?_
  exact ⟨rfl, _, rfl, c3, _, _, hc3, rfl, rfl⟩
theorem copS2_call {p : Ply} {o0 : AObj} {o1 : AObj} (hh : 0 < p.hts.length ∧ p.hts.length ≤ 1000000) (hf : 0 < p.figs.length ∧ p.figs.length ≤ 1000000) (hs : 0 < p.scs.length ∧ p.scs.length ≤ 1000000) : ACall Tryz.prog 59 [plA p] [o0, o1] (fun y H' => ∃ cap, p.scs.length ≤ cap ∧ y = .ret (.agg [I p.left, ints p.hts, fgs p.figs, .msl 6 0 p.scs.length cap]) ∧ H' = [o0, o1, .dead, .dead, .dead, .dead, .cells ((p.scs.map scC).flatten ++ List.replicate ((cap - p.scs.length) * 4) .any)]) :=
  acall_wk (copS2_call0 hh hf hs) fun y H1 ⟨cap, l1, l2, hcap, hy, hH⟩ => ⟨_, _, _, hy, Less.rfl' _, by subst hH; exact .cons (.same _) (.cons (.same _) (.cons (.dead _) (.cons (.dead _) (.cons (.same _) (.cons (.same _) (.cons (.same _) (.nil))))))), cap, hcap, rfl, rfl⟩
end Go.Proofs.YtfmpabgblbbcdaaGreatDoor
namespace Go.Proofs.YtfmpabgblbbcdaaGreatDoor
open Go Go.Ab Ni St
open Hd hiding sz
instance en50 : EnT Tryz.prog 50 := ⟨Ent.of Tryz.func50 (by kernel_rfl) rfl⟩
theorem row_at {R : List AV} {j : Nat} (hj : j < 4) : ∀ {k : Nat} {l : List Scn} (hk : k < l.length), ((l.map scC).flatten ++ R)[0 + k * 4 + j]? = (scC l[k])[j]?
  | 0, x :: l, _ => by
    rw [List.map_cons, List.flatten_cons, List.append_assoc, List.getElem?_append_left (by show 0 + 0 * 4 + j < 4; omega)]
    rw [show 0 + 0 * 4 + j = j by omega]; rfl
  | k + 1, x :: l, hk => by
    have ih := row_at (R := R) hj (k := k) (l := l) (by simpa using hk)
    rw [List.map_cons, List.flatten_cons, List.append_assoc, List.getElem?_append_right (by show 4 ≤ 0 + (k + 1) * 4 + j; omega)]
    have e : 0 + (k + 1) * 4 + j - (scC x).length = 0 + k * 4 + j := by show _ - 4 = _; omega
    rw [e]; exact ih
theorem row_set {R : List AV} {j : Nat} (hj : j < 4) {v : AV} {x' : Scn} : ∀ {k : Nat} {l : List Scn} (hk : k < l.length), scC x' = (scC l[k]).set j v → ((l.map scC).flatten ++ R).set (0 + k * 4 + j) v = ((l.set k x').map scC).flatten ++ R
  | 0, x :: l, _, h => by
    rw [List.map_cons, List.flatten_cons, List.append_assoc, show 0 + 0 * 4 + j = j by omega, List.set_append_left _ _ (by show j < 4; omega)]
    rw [List.set_cons_zero, List.map_cons, List.flatten_cons, List.append_assoc]
    rw [h]; rfl
  | k + 1, x :: l, hk, h => by
    have ih := row_set (R := R) hj (v := v) (x' := x') (k := k) (l := l) (by simpa using hk) h
    rw [List.map_cons, List.flatten_cons, List.append_assoc, List.set_append_right _ _ (by show 4 ≤ 0 + (k + 1) * 4 + j; omega)]
    have e : 0 + (k + 1) * 4 + j - (scC x).length = 0 + k * 4 + j := by show _ - 4 = _; omega
    rw [e, ih, List.set_cons_succ, List.map_cons, List.flatten_cons, List.append_assoc]
theorem fl_fld (l : List Scn) (R : List AV) {k j : Nat} (hk : k < l.length) (hj : j < 4) (v : AV) (x' : Scn) (h : scC x' = (scC l[k]).set j v) :
    ((l.map scC).flatten ++ R).take (0 + k * 4 + j) ++ [v] ++ ((l.map scC).flatten ++ R).drop (0 + k * 4 + j + 1) = ((l.set k x').map scC).flatten ++ R := by
  have hl : ((l.map scC).flatten).length = l.length * 4 := fl_len (f := scC) (sz := 4) (fun a => rfl) l
  rw [← row_set hj hk h, List.set_eq_take_append_cons_drop, if_pos (by rw [List.length_append, hl]; omega)]
  simp
theorem row_len (l : List Scn) (R : List AV) {k j : Nat} (hk : k < l.length) (hj : j < 4) : Nat.ble (0 + k * 4 + j + 1) ((l.map scC).flatten ++ R).length = true :=
  Nat.ble_eq_true_of_le (by rw [List.length_append, fl_len (f := scC) (sz := 4) (fun a => rfl)]; omega)
theorem pl_bd {p : Ply} (B : PlB p) : (0 < p.hts.length ∧ p.hts.length ≤ 1000000) ∧ (0 < p.figs.length ∧ p.figs.length ≤ 1000000) ∧ (0 < p.scs.length ∧ p.scs.length ≤ 1000000) := by
  have := B.nh; have := B.nf; have := B.ns; omega
theorem rmoret_pure {p : Ply} (gP : PlB p) {k : Nat} (hk : k < p.scs.length) (f : Int) : APure Tryz.prog 50 [plA p, I k, I f, B true] (plA (setS p k (moreX true (sc p k) f))) := by
  refine ap Tryz.func50 (fun e0 he0 => ?_)
  refine aw_seq ?_
  have esc := sc_at hk
  have gX := sc_B gP hk
  have hml := rising_len gX.mv
  have hrl := rising_len gX.rs
  have hnf := gP.nf
  refine wz 3 ?_
  refine sq_call (args := [plA p]) rfl en59.h jz ⟨jz, trivial⟩ (copS2_call (pl_bd gP).1 (pl_bd gP).2.1 (pl_bd gP).2.2) ?_ (by rintro v H' ⟨_, _, h, _⟩; cases h)
  rintro v H' ⟨cap, hcap, h, rfl⟩
  cases h
  refine wz 3 ?_
  refine aw_draw 13 mo (by kernel_rfl) ?_
  refine dz 6 ?_
  refine dr_ev rfl (ev_index_msl (k := k) sl24.h jz jz rfl hk) ?_
  refine dz 1 ?_
  refine dr_ev rfl (ev_load (v := ints (sc p k).moved) jz rfl ty22.h (by rw [row_at (l := p.scs) (j := 0) (by decide) hk, ← esc]; rfl)) ?_
  refine dz 1 ?_
  refine dkz az (rput_pure (sc p k).moved f (by omega) (lt_le (rising_iff.1 gX.mv).1)) ?_
  refine dr_ev rfl (ev_index_msl (k := k) sl24.h jz jz rfl hk) ?_
  refine dz 1 ?_
  refine sq_store (j := 6) (off := 0 + k * 4 + 0) rfl jz jz rfl rfl ty22.h rfl (row_len p.scs _ (j := 0) hk (by decide)) ?_
  refine sq_nil ?_
  refine aw_seq ?_
  refine aw_sub (sub_freeze (j := 6) (n := p.scs.length) (cap := cap) (sz := 4) (es := (p.scs.set k (moreX true (sc p k) f)).map scC) (rest := List.replicate ((cap - p.scs.length) * 4) .any) (sl' := [(4, .ptr 0 0), (8, .ptr 1 0)]) (congrArg (fun l => some (AObj.cells l)) (fl_fld p.scs _ (j := 0) hk (by decide) (ints (withN (sc p k).moved f)) (moreX true (sc p k) f) (by rw [← esc]; rfl))) (by simp [outP]) (fun q hq => by obtain ⟨x, _, rfl⟩ := List.mem_map.1 hq; rfl) (fun q hq => ?_) (FzH.cells (by decide) (FzL.cons (Fz.same _) (FzL.cons (Fz.same _) (FzL.cons (Fz.same _) (FzL.cons Fz.frozen FzL.nil)))) (FzH.same _ (by decide) (FzH.same _ (by decide) (FzH.same _ (by decide) (FzH.same _ (by decide) (FzH.same _ (by decide) (FzH.dead _ rfl (FzH.nil _))))))))) ?_
  ·simp only [List.mem_cons, List.not_mem_nil, or_false] at hq; rcases hq with rfl | rfl <;> exact Fz.same _
  refine nz ?_
  refine wz 2 ?_
  exact retQ_res (vs := [.agg _]) rfl rfl ⟨resVar_cell rfl rfl ty26.h rfl, trivial⟩ jz
theorem rmoref_pure {p : Ply} (gP : PlB p) {k : Nat} (hk : k < p.scs.length) (f : Int) : APure Tryz.prog 50 [plA p, I k, I f, B false] (plA (setS p k (moreX false (sc p k) f))) := by
  refine ap Tryz.func50 (fun e0 he0 => ?_)
  refine aw_seq ?_
  have esc := sc_at hk
  have gX := sc_B gP hk
  have hml := rising_len gX.mv
  have hrl := rising_len gX.rs
  have hnf := gP.nf
  refine wz 3 ?_
  refine sq_call (args := [plA p]) rfl en59.h jz ⟨jz, trivial⟩ (copS2_call (pl_bd gP).1 (pl_bd gP).2.1 (pl_bd gP).2.2) ?_ (by rintro v H' ⟨_, _, h, _⟩; cases h)
  rintro v H' ⟨cap, hcap, h, rfl⟩
  cases h
  refine wz 3 ?_
  refine aw_draw 13 mo (by kernel_rfl) ?_
  refine dz 6 ?_
  refine dr_ev rfl (ev_index_msl (k := k) sl24.h jz jz rfl hk) ?_
  refine dz 1 ?_
  refine dr_ev rfl (ev_load (v := ints (sc p k).rest) jz rfl ty22.h (by rw [row_at (l := p.scs) (j := 1) (by decide) hk, ← esc]; rfl)) ?_
  refine dz 1 ?_
  refine dkz az (rput_pure (sc p k).rest f (by omega) (lt_le (rising_iff.1 gX.rs).1)) ?_
  refine dr_ev rfl (ev_index_msl (k := k) sl24.h jz jz rfl hk) ?_
  refine dz 1 ?_
  refine sq_store (j := 6) (off := 0 + k * 4 + 1) rfl jz jz rfl rfl ty22.h rfl (row_len p.scs _ (j := 1) hk (by decide)) ?_
  refine sq_nil ?_
  refine aw_seq ?_
  refine aw_sub (sub_freeze (j := 6) (n := p.scs.length) (cap := cap) (sz := 4) (es := (p.scs.set k (moreX false (sc p k) f)).map scC) (rest := List.replicate ((cap - p.scs.length) * 4) .any) (sl' := [(4, .ptr 0 0), (8, .ptr 1 0)]) (congrArg (fun l => some (AObj.cells l)) (fl_fld p.scs _ (j := 1) hk (by decide) (ints (withN (sc p k).rest f)) (moreX false (sc p k) f) (by rw [← esc]; rfl))) (by simp [outP]) (fun q hq => by obtain ⟨x, _, rfl⟩ := List.mem_map.1 hq; rfl) (fun q hq => ?_) (FzH.cells (by decide) (FzL.cons (Fz.same _) (FzL.cons (Fz.same _) (FzL.cons (Fz.same _) (FzL.cons Fz.frozen FzL.nil)))) (FzH.same _ (by decide) (FzH.same _ (by decide) (FzH.same _ (by decide) (FzH.same _ (by decide) (FzH.same _ (by decide) (FzH.dead _ rfl (FzH.nil _))))))))) ?_
  ·simp only [List.mem_cons, List.not_mem_nil, or_false] at hq; rcases hq with rfl | rfl <;> exact Fz.same _
  refine nz ?_
  refine wz 2 ?_
  exact retQ_res (vs := [.agg _]) rfl rfl ⟨resVar_cell rfl rfl ty26.h rfl, trivial⟩ jz
end Go.Proofs.YtfmpabgblbbcdaaGreatDoor
namespace Go.Proofs.YtfmpabgblbbcdaaGreatDoor
open Go Go.Ab Ni St
open Hd hiding sz
instance en33 : EnT Tryz.prog 33 := ⟨Ent.of Tryz.func33 (by kernel_rfl) rfl⟩
theorem rmore_pure {p : Ply} (gP : PlB p) {k : Nat} (hk : k < p.scs.length) (f : Int) (mv : Bool) : APure Tryz.prog 50 [plA p, I k, I f, B mv] (plA (setS p k (moreX mv (sc p k) f))) := by
  cases mv with
  | true => exact rmoret_pure gP hk f
  | false => exact rmoref_pure gP hk f
theorem setS_SB {p : Ply} {k : Nat} {x y : Scn} (X : ScB p x) : ScB (setS p k y) x := ⟨X.mv, X.rs, X.tk, X.r4, X.kn⟩
theorem radds_pure {p : Ply} (gP : PlB p) {k : Nat} (hk : k < p.scs.length) (mv : Bool) : APure Tryz.prog 33 [plA p, I k, B mv] (ints (adds p k mv)) := by
  refine ap Tryz.func33 (fun e0 he0 => ?_)
  refine vz 2 ?_
  refine sq_nil ?_
  refine aw_seq ?_
  have esc := sc_at hk
  have gX := sc_B gP hk
  have hnf := gP.nf
  have hns := gP.ns
  have gml := rising_len gX.mv
  have grl := rising_len gX.rs
  refine vz 2 ?_
  refine sq_nil ?_
  refine aw_block ?_
  refine aw_sub (sub_token 7 1 jz) ?_
  refine aw_loopk (ι := { f : Nat // f ≤ p.figs.length }) [1, 2, 3] (fun g => [(8, I (g.1 : Nat)), (7, .own 1 1 ((addsK p k mv g.1).map fun x => [I x]))]) (fun H g => H.set 1 (.tok ((addsK p k mv g.1).map fun x => [I x]).length)) (fun g => p.figs.length - g.1) (⟨0, Nat.zero_le _⟩) ⟨jz, jz, jz, jz, jz, trivial⟩ rfl ?_
  rintro ⟨f, hf⟩
  refine nz ?_
  have hal := addsK_len p k mv f
  refine wz 5 ?_
  refine iz (fun c_14 c_14' => ?_) (fun c_14 c_14' => ?_)
  ·have hfl : f < p.figs.length := by omega
   refine wz 3 ?_
   refine sq_ev rfl (ev_less (ev_index_map (k := k) (xs := p.scs) sl24.h jz jz rfl hk) (Less.eq (b := .iptr (scC (sc p k))) (by rw [esc]))) ?_
   refine wz 3 ?_
   refine kz az (has_pure (sc p k).moved (f : Int) (by omega)) ?_
   refine wz 1 ?_
   refine sz 25 (fun g5_8 g5_8' => ?_) (fun g5_8 g5_8' => ?_)
   ·have eS : ((addsK p k mv (f + 1)).map fun x => [I x]) = ((addsK p k mv f).map fun x => [I x]) := addsK_no (by unfold addI; simp_all)
    refine wz 13 ?_
    exact ⟨⟨f + 1, by omega⟩, by simp only; omega, sb 2 ⟨jz, Less.eq (by rw [eS] <;> rfl), jz, jz, jz, trivial⟩ (hH := (congrArg (fun m => [_, AObj.tok m]) (congrArg List.length eS.symm)))⟩
   refine wz 3 ?_
   refine sq_yes rfl rfl (less_b g5_8) rfl (ev_less (ev_index_map (k := k) (xs := p.scs) sl24.h jz jz rfl hk) (Less.eq (b := .iptr (scC (sc p k))) (by rw [esc]))) ?_
   refine wz 3 ?_
   refine ky az (has_pure (sc p k).rest (f : Int) (by omega)) ?_
   refine wz 1 ?_
   refine iz (fun c_34 c_34' => ?_) (fun c_34 c_34' => ?_)
   ·have eS : ((addsK p k mv (f + 1)).map fun x => [I x]) = ((addsK p k mv f).map fun x => [I x]) := addsK_no (by unfold addI; simp_all)
    refine wz 3 ?_
    exact ⟨⟨f + 1, by omega⟩, by simp only; omega, sb 2 ⟨jz, Less.eq (by rw [eS] <;> rfl), jz, jz, jz, trivial⟩ (hH := (congrArg (fun m => [_, AObj.tok m]) (congrArg List.length eS.symm)))⟩
   have hnm : (f : Int) ∉ (sc p k).moved := by simpa using g5_8
   have hnr : (f : Int) ∉ (sc p k).rest := by simpa using c_34
   refine wz 4 ?_
   refine kz az (rmore_pure gP hk (f : Int) mv) ?_
   refine wz 5 ?_
   refine sq_ev rfl (ev_less (ev_index_map (k := k) (xs := p.scs.set k (moreX mv (sc p k) f)) sl24.h jz jz rfl (by rw [List.length_set]; exact hk)) (Less.eq (b := .iptr (scC (moreX mv (sc p k) f))) (by rw [List.getElem_set_self]))) ?_
   refine wz 5 ?_
   refine sz 48 (fun g7_8 g7_8' => ?_) (fun g7_8 g7_8' => ?_)
   ·have hr4 : (moreX mv (sc p k) f).rest.length ≤ 4 := by have h := g7_8; simp at h; omega
    refine wz 2 ?_
    refine ky az (rcan_pure (p := setS p k (moreX mv (sc p k) f)) (k := k) (x := (moreX mv (sc p k) f)) (setS_B gP (moreX_B gX hfl hnm hnr hr4)) (by show k < (p.scs.set k _).length; rw [List.length_set]; exact hk) (by show (p.scs.set k _)[k]'_ = _; rw [List.getElem_set_self]) (setS_SB (moreX_B gX hfl hnm hnr hr4))) ?_
    refine wz 1 ?_
    refine iz (fun c_52 c_52' => ?_) (fun c_52 c_52' => ?_)
    ·have hcn : St.can p (moreX mv (sc p k) f) = true := by have h := c_52; rw [setS_can] at h; exact h
     have eS : ((addsK p k mv (f + 1)).map fun x => [I x]) = ((addsK p k mv f).map fun x => [I x]) ++ [[I (f : Int)]] := addsK_yes (by unfold addI; simp [hnm, hnr, hr4, hcn])
     refine wz 2 ?_
     refine sq_ev rfl (ev_buildSlice (es := [[_]]) sf22.h rfl rfl rfl rfl) ?_
     first | refine sq_append rfl sf22.h Tryz.underlying22 rfl rfl jz (Nat.succ_pos _) (by simp; omega) (by simp; omega) ?_ | refine sq_append rfl sf22.h Tryz.underlying22 rfl rfl (less_slx _ _) (Nat.succ_pos _) (by simp; omega) (by simp; omega) ?_
     refine wz 4 ?_
     exact ⟨⟨f + 1, by omega⟩, by simp only; omega, sb 2 ⟨jz, Less.eq (by rw [eS] <;> rfl), jz, jz, jz, trivial⟩ (hH := (congrArg (fun m => [_, AObj.tok m]) (congrArg List.length eS.symm)))⟩
    have hcn : St.can p (moreX mv (sc p k) f) = false := by have h := c_52; rw [setS_can] at h; exact h
    have eS : ((addsK p k mv (f + 1)).map fun x => [I x]) = ((addsK p k mv f).map fun x => [I x]) := addsK_no (by unfold addI; simp [hcn])
    refine wz 3 ?_
    exact ⟨⟨f + 1, by omega⟩, by simp only; omega, sb 2 ⟨jz, Less.eq (by rw [eS] <;> rfl), jz, jz, jz, trivial⟩ (hH := (congrArg (fun m => [_, AObj.tok m]) (congrArg List.length eS.symm)))⟩
   have hr4 : ¬ (moreX mv (sc p k) f).rest.length ≤ 4 := by have h := g7_8; simp at h; omega
   have eS : ((addsK p k mv (f + 1)).map fun x => [I x]) = ((addsK p k mv f).map fun x => [I x]) := addsK_no (by unfold addI; simp [hr4])
   refine wz 8 ?_
   exact ⟨⟨f + 1, by omega⟩, by simp only; omega, sb 2 ⟨jz, Less.eq (by rw [eS] <;> rfl), jz, jz, jz, trivial⟩ (hH := (congrArg (fun m => [_, AObj.tok m]) (congrArg List.length eS.symm)))⟩
  obtain rfl : f = p.figs.length := by omega
  refine wz 2 ?_
  exact retQ_pure (v := .own _ _ _) rfl rfl (less_own _ _ _)
end Go.Proofs.YtfmpabgblbbcdaaGreatDoor
namespace Go.Proofs.YtfmpabgblbbcdaaGreatDoor
open Go Go.Ab Ni St
open Hd hiding sz
theorem adds_len (p : Ply) (k : Nat) (mv : Bool) : (adds p k mv).length ≤ p.figs.length := addsK_len p k mv _
theorem ad_bd {p : Ply} (hr : plOK p = true) (k : Nat) (mv : Bool) : (adds p k mv).length ≤ 1000000 := by have := (plOK_B hr).nf; have := adds_len p k mv; omega
theorem law5_a {p : Ply} {n : Int} (hs : shB p = false) : APure Tryz.prog 5 [plA p, I n] (B true) := by
  refine ap Tryz.func5 (fun e0 he0 => ?_)
  refine wz 3 ?_
  refine kz az (short_f hs) ?_
  refine wz 2 ?_
  refine kz az (known_pure) ?_
  refine wz 1 ?_
  exact rz rfl jz
theorem law5_b {p : Ply} {n : Int} (hs : shB p = true) (hr : plOK p = false) : APure Tryz.prog 5 [plA p, I n] (B true) := by
  refine ap Tryz.func5 (fun e0 he0 => ?_)
  refine wz 3 ?_
  refine kz az (short_t hs) ?_
  refine wz 4 ?_
  refine kz az (xadds_bad (shB_len hs).1 (shB_len hs).2.1 (shB_len hs).2.2.1 (shB_len hs).2.2.2 n (bad_of1 hr)) ?_
  refine wz 7 ?_
  refine kz az (xjoins_bad (shB_len hs).1 (shB_len hs).2.1 (shB_len hs).2.2.1 (shB_len hs).2.2.2 n (bad_of1 hr)) ?_
  refine wz 6 ?_
  refine kz az (pl_f hs hr) ?_
  refine wz 25 ?_
  refine ky az (known_pure) ?_
  refine wz 2 ?_
  exact rz rfl jz
theorem law5_c {p : Ply} {n : Int} (hs : shB p = true) (hr : plOK p = true) (hi : scIn p n = false) : APure Tryz.prog 5 [plA p, I n] (B true) := by
  refine ap Tryz.func5 (fun e0 he0 => ?_)
  refine wz 3 ?_
  refine kz az (short_t hs) ?_
  refine wz 4 ?_
  refine kz az (xadds_bad (shB_len hs).1 (shB_len hs).2.1 (shB_len hs).2.2.1 (shB_len hs).2.2.2 n (bad_of2 hi)) ?_
  refine wz 7 ?_
  refine kz az (xjoins_bad (shB_len hs).1 (shB_len hs).2.1 (shB_len hs).2.2.1 (shB_len hs).2.2.2 n (bad_of2 hi)) ?_
  refine wz 6 ?_
  refine kz az (pl_t hs hr) ?_
  refine wz 4 ?_
  refine ky az (scn_f hs hi) ?_
  refine wz 20 ?_
  refine ky az (known_pure) ?_
  refine wz 2 ?_
  exact rz rfl jz
theorem law5_d {p : Ply} {k : Nat} (hs : shB p = true) (hr : plOK p = true) (hi : scIn p k = true) (hn : k < p.scs.length)  : APure Tryz.prog 5 [plA p, I k] (B true) := by
  refine ap Tryz.func5 (fun e0 he0 => ?_)
  refine wz 3 ?_
  refine kz az (short_t hs) ?_
  refine wz 4 ?_
  refine kz az (xadds_ok (shB_len hs).1 (shB_len hs).2.1 (shB_len hs).2.2.1 (shB_len hs).2.2.2 hn hr) ?_
  refine wz 7 ?_
  refine kz az (xjoins_ok (shB_len hs).1 (shB_len hs).2.1 (shB_len hs).2.2.1 (shB_len hs).2.2.2 hn hr) ?_
  refine wz 6 ?_
  refine kz az (pl_t hs hr) ?_
  refine wz 4 ?_
  refine ky az (scn_t hs hi) ?_
  refine wz 9 ?_
  refine ky az (radds_pure (plOK_B hr) hn false) ?_
  refine ky az (same_t (ad_bd hr k false) (ad_bd hr k false) rfl) ?_
  refine wz 9 ?_
  refine ky az (radds_pure (plOK_B hr) hn true) ?_
  refine ky az (same_t (ad_bd hr k true) (ad_bd hr k true) rfl) ?_
  refine wz 2 ?_
  refine ky az (known_pure) ?_
  refine wz 2 ?_
  exact rz rfl jz
/-- **StemAdds.** -/
theorem law5 (p : Ply) (n : Int) (_ : -9223372036854775808 ≤ n) (_ : n ≤ 9223372036854775807) : APure Tryz.prog 5 [plA p, I n] (B true) := by
  cases hs : shB p with
  | false => exact law5_a hs
  | true =>
    cases hr : plOK p with
    | false => exact law5_b hs hr
    | true =>
      cases hi : scIn p n with
      | false => exact law5_c hs hr hi
      | true =>
        obtain ⟨k, rfl, hn⟩ := scIn_iff.1 hi
        exact law5_d hs hr hi hn
end Go.Proofs.YtfmpabgblbbcdaaGreatDoor
