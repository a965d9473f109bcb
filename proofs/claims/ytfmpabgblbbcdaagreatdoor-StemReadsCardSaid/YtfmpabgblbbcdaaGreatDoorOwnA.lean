/-
  A part of the proof: conditions: none beyond each theorem's own.
-/
import Derived.Test.YtfmpabgblbbcdaaGreatDoorLogicA
import Derived.Test.YtfmpabgblbbcdaaGreatDoorLogicC
import Derived.Laws.StructEq
import Derived.Laws.RangeAny
import Derived.Laws.BytesArg
import Derived.Laws.Concat
import Derived.Sort.Grow
import Derived.Deep.Draws
import Derived.Deep.Slices
import Derived.OpenShut
import Derived.Carry
import Derived.Test.YtfmpabgblbbcdaaGreatDoorSpecA
import Derived.Lib.ItoaNum
import Derived.Lib.Join
import Derived.Test.YtfmpabgblbbcdaaGreatDoorLogicD
import Derived.Test.YtfmpabgblbbcdaaGreatDoorProg
import Derived.KernelRfl
import Derived.Lib.LaidTab
import Derived.Test.YtfmpabgblbbcdaaGreatDoorWalkE
import Derived.Test.YtfmpabgblbbcdaaGreatDoorWalkG
import Derived.Laws.IdiomStrings
import Derived.Laws.IdiomCopy
import Derived.Test.YtfmpabgblbbcdaaGreatDoorLogicB
import Derived.Test.YtfmpabgblbbcdaaGreatDoorLogicE
import Derived.Test.YtfmpabgblbbcdaaGreatDoorShelf
import Derived.Test.YtfmpabgblbbcdaaGreatDoorWalkA
import Derived.Test.YtfmpabgblbbcdaaGreatDoorWalkB
import Derived.Test.YtfmpabgblbbcdaaGreatDoorWalkC
import Derived.Test.YtfmpabgblbbcdaaGreatDoorWalkD
import Derived.Test.YtfmpabgblbbcdaaGreatDoorWalkF
import Derived.Test.YtfmpabgblbbcdaaGreatDoorRow
set_option linter.all false
set_option maxRecDepth 100000
set_option maxHeartbeats 8000000
namespace Go.Ab
variable [Tabs]
theorem FW_room (r : Option Nat) (n : Nat) : (FW r).room n := fun _ h => by simp [FW] at h
variable {c : Ctx} {Q : AExit → St → Prop} {s : St}
end Go.Ab
namespace Go.Ab
variable [Tabs]
section ops
variable {P : Program} {r : Option Nat} {H : List AObj} {ρ : Operand → AV}
variable {d : Option Tmp} {t : TypeId} {p : String} {af : Array Edge} {g : Option (Nat × Bool)}
variable {x y z : Operand}
theorem ev_sneq {a b : ByteArray} {xt yt : TypeId} (hx : Less (ρ x) (.raw (.string a))) (hy : Less (ρ y) (.raw (.string b))) :
    Ev P r ⟨d, .binOp .neq xt x y yt, t, p, af, g⟩ H ρ (.raw (.bool (decide (a ≠ b)))) :=
  ev_str2 hx hy fun w e => ⟨.bool (!(a.toList == b.toList)), by simp [binOp, Op.stringOp], by rw [Rep, ba_eq]; by_cases h : a = b <;> simp [h]⟩
theorem ev_slice_str {xt : TypeId} {s : ByteArray} {lo hi : Nat} {ol oh : Option Operand} (ht : P.underlying xt = some .string) (hx : Less (ρ x) (.raw (.string s)))
    (hl : match ol with | none => lo = 0 | some q => Less (ρ q) (.raw (.int .i64 (lo : Int)))) (hh : match oh with | none => hi = s.size | some q => Less (ρ q) (.raw (.int .i64 (hi : Int)))) (h1 : lo ≤ hi) (h2 : hi ≤ s.size) :
    Ev P r ⟨d, .slice xt x ol oh none, t, p, af, g⟩ H ρ (.raw (.string (s.extract lo hi))) :=
  Ev.pure (by intro c h; cases h) fun e ρc ok hE hs => by
    have hv := rep_raw hx (hs x (by cases ol <;> cases oh <;> simp [Op.operands]))
    have hlo : ∀ q, ol = some q → ρc q = .int .i64 (lo : Int) := fun q hq => by
      subst hq; exact rep_raw hl (hs q (by cases oh <;> simp [Op.operands]))
    have hhi : ∀ q, oh = some q → ρc q = .int .i64 (hi : Int) := fun q hq => by
      subst hq; exact rep_raw hh (hs q (by cases ol <;> simp [Op.operands]))
    have hL : ol = none → lo = 0 := fun h => by subst h; exact hl
    have hH : oh = none → hi = s.size := fun h => by subst h; exact hh
    have hb : (Instr.sliceBounds false s.size s.size (ol.map ρc) (oh.map ρc) none).run P e.w = .ok (lo, hi, s.size) e.w := by
      cases ol with
      | none =>
        obtain rfl := hL rfl
        cases oh with
        | none => obtain rfl := hH rfl; simp [Instr.sliceBounds]
        | some q' => simp [Instr.sliceBounds, Instr.sliceBound, hhi q' rfl, asIntOf, h2]
      | some q =>
        cases oh with
        | none => obtain rfl := hH rfl; simp [Instr.sliceBounds, Instr.sliceBound, hlo q rfl, asIntOf, h1]
        | some q' => simp [Instr.sliceBounds, Instr.sliceBound, hlo q rfl, hhi q' rfl, asIntOf, h2, h1]
    refine ⟨.string (s.extract lo hi), ?_, by rw [Rep]⟩
    simp [execOp, Instr.sliceAt, Instr.slice, run_und ht, hv, hb]
theorem ev_neq_agg {xt yt : TypeId} {xs ys : Array Value} {b : Bool} (hg : P.eqGuardType P.depth xt = false) (he : ∀ w, (Op.equalIn 10000 xt (.agg xs) (.agg ys)).run P w = .ok b w)
    (hx : Less (ρ x) (.raw (.agg xs))) (hy : Less (ρ y) (.raw (.agg ys))) : Ev P r ⟨d, .binOp .neq xt x y yt, t, p, af, g⟩ H ρ (.raw (.bool !b)) :=
  Ev.pure (by intro c h; cases h) fun e ρc _ _ hs => by
    have e1 := rep_raw hx (hs x (by simp [Op.operands]))
    have e2 := rep_raw hy (hs y (by simp [Op.operands]))
    exact ⟨.bool !b, by simp [execOp, e1, e2, run_eqGuard_agg _ _ _ _ _ _ _ hg, run_neq_struct, he], by rw [Rep]⟩
end ops
end Go.Ab
namespace Go.Ab
variable [Tabs]
section ops
variable {P : Program} {r : Option Nat} {H : List AObj} {ρ : Operand → AV}
variable {d : Option Tmp} {t : TypeId} {p : String} {af : Array Edge} {g : Option (Nat × Bool)}
variable {x y z : Operand}
theorem ev_sneS {a b : List UInt8} {xt yt : TypeId} (hx : Less (ρ x) (S a)) (hy : Less (ρ y) (S b)) : Ev P r ⟨d, .binOp .neq xt x y yt, t, p, af, g⟩ H ρ (.raw (.bool (decide (a ≠ b)))) := by
  have h := ev_sneq (P := P) (r := r) (H := H) (d := d) (t := t) (p := p) (af := af) (g := g) (xt := xt) (yt := yt) hx hy
  have e1 : decide ((⟨a.toArray⟩ : ByteArray) ≠ ⟨b.toArray⟩) = decide (a ≠ b) := by
    have := bs_eq a b
    have h2 := decide_eq_decide.1 this
    exact decide_eq_decide.2 (not_congr h2)
  rw [e1] at h; exact h
end ops
section seq
variable {c : Ctx} {ops : Array Oper} {Q : AExit → St → Prop} {rest : List Oper} {s : St} {i : Nat}
variable {d : Option Tmp} {t : TypeId} {p : String} {af : Array Edge}
end seq
end Go.Ab
namespace Go.Ab
open Go.ChangeShapes Go.WideShapes
variable [Tabs]
theorem env0_ok {w : World} (h : Tabs.is w) (hb : ∀ b, Tabs.blk b → b < w.heap.size) : EnvOK (env0 w) :=
  ⟨fun b hb => by have hb' : w.heap.size ≤ b := hb
                  have : w.heap[b]? = none := by simpa using hb'
                  simp [env0, this], fun i o h => by simp [env0] at h, fun i j b hi => by simp [env0] at hi, fun i b hi => by simp [env0] at hi, h, fun b hk => ⟨hb b hk, fun i hi => by simp [env0] at hi⟩⟩
section
variable {H : Type} {enc : TypeId × Value → H} {P : Program} {w : World} {base : Nat} {spare : Nat → Bool} {held : Bool}
theorem trodAll_stays (hl : laidOutB P = true) {W W' : World} (hheap : ∀ b, b < W.heap.size → W'.heap[b]? = W.heap[b]?) {sp' : Nat → Bool} :
    ∀ {ts : List TypeId} {vs : List Value} {ds : List (DataW H)} {ps : List MemPlace}, (∀ t ∈ ts, P.readableRec t = true ∧ t < P.types.size) → DataW.TrodAll enc P W base (fun _ => true) true ts vs ds ps → (∀ p ∈ ps, p.block < W.heap.size) → (∀ p ∈ ps, sp' p.block = true) →
      DataW.TrodAll enc P W' base sp' true ts vs ds ps
  | [], _, _, _, _, h, _, _ => by
    obtain ⟨rfl, rfl, rfl⟩ := trodAll_nil h
    exact trodAll_mk0
  | t :: ts, _, _, _, ht, h, hlt, hs => by
    obtain ⟨v, vs1, d, ds1, a, b, rfl, rfl, rfl, h1, h2⟩ := trodAll_cons h
    refine trodAll_cons_mk (WideElems.Trod_stays hl (ht t (by simp)).1 (ht t (by simp)).2 h1 (fun p hp => ?_) (fun p hp => hs p (by simp [hp]))) (trodAll_stays hl hheap (fun u hu => ht u (List.mem_cons_of_mem _ hu)) h2 (fun p hp => hlt p (by simp [hp])) (fun p hp => hs p (by simp [hp])))
    have hb := hheap p.block (hlt p (by simp [hp]))
    cases p with
    | cell b o => exact cell?_of_heap hb
    | map b => exact hb
/-- **What a law's row asks of a call that returns true and leaves what it met.** -/
theorem post_true {f : Func} {s : ChangeSpec} {W W' : World} {args : Array Value} {ds gs : List (DataW H)} {before : List MemPlace} {tb : TypeId} (hl : laidOutB P = true) (hread : ∀ t ∈ f.params.toList, P.readableRec t = true ∧ t < P.types.size)
    (hres : f.resultTypes = #[tb]) (htb : P.underlying tb = some .bool) (hvars : s.vars = []) (hspec : (s.fn H ds).results = [.lit (.bool true)] ∧ (s.fn H ds).args = ds ∧ (s.fn H ds).vars = [])
    (hW : DataW.Whole enc P f.params.toList s.vars false W args.toList ds gs before) (hheap : ∀ b, b < W.heap.size → W'.heap[b]? = W.heap[b]?) (hst : Still W W') :
    s.post enc P f false true false false W args (.bool true) W' := by
  have hlt := hW.lt
  have hW0 := hW
  obtain ⟨p, q, h1, h2, rfl, _, _⟩ := hW
  rw [hvars] at h2
  obtain ⟨rfl, rfl⟩ := trodVars_none h2
  simp only [List.append_nil] at hlt
  obtain ⟨e1, e2, e3⟩ := hspec
  refine ⟨ds, [], p ++ [], [], p, [], hW0, ?_, ?_, ?_, ?_, fun h => by cases h⟩
  · rw [List.append_nil, e1, hres]
    exact trodAll_cons_mk (RowKit.shut_bool htb _) trodAll_mk0
  · rw [List.append_nil, e2]
    exact trodAll_stays hl hheap hread h1 hlt (fun p hp => by simpa using hlt p hp)
  · rw [List.append_nil, e3, hvars]; rfl
  · refine ⟨hst.1, hst.2, fun i hi => ?_⟩
    rw [hheap i hi]
    split <;> simp_all
theorem APure.law {f : FuncId} {args : List AV} {W : World} {vs : Array Value} (hc : APure P f args (.raw (.bool true))) (ht : Tabs.is W) (hb : ∀ b, Tabs.blk b → b < W.heap.size) (hr : RepL (env0 W) args vs.toList) :
    Calls P f vs W fun x W' => x = .returned (.bool true) ∧ (∀ b, b < W.heap.size → W'.heap[b]? = W.heap[b]?) ∧ Still W W' := by
  refine ((hc (env0 W) vs (env0_ok ht hb) hr).calls (fun k => FW_room none k)).mono ?_
  rintro x w' ⟨u, e', rfl, rfl, hx, hu⟩
  rw [Rep] at hu; subst hu
  exact ⟨rfl, hx.heap, hx.still⟩
end
end Go.Ab
namespace Ni
open Go Go.Ab
theorem valN_snoc (l : List UInt8) (b : UInt8) : valN (l ++ [b]) = 10 * valN l + ((b.toNat : Int) - 48) := by simp [valN, List.foldl_append]
theorem valN_take {l : List UInt8} {k : Nat} (h : k < l.length) : valN (l.take (k + 1)) = 10 * valN (l.take k) + ((l[k].toNat : Int) - 48) := by
  rw [List.take_succ_eq_append_getElem h, valN_snoc]
theorem valN_bd {l : List UInt8} : ∀ {k : Nat}, k ≤ l.length → (∀ i, (h : i < l.length) → i < k → isD l[i] = true) → 0 ≤ valN (l.take k) ∧ valN (l.take k) < ((10 ^ k : Nat) : Int)
  | 0, _, _ => by simp [valN]
  | k + 1, hk, h => by
    have ih := valN_bd (l := l) (k := k) (by omega) fun i hi hik => h i hi (by omega)
    have hd := (isD_iff _).1 (h k (by omega) (by omega))
    rw [valN_take (by omega)]
    have : ((10 ^ (k + 1) : Nat) : Int) = 10 * ((10 ^ k : Nat) : Int) := by rw [Nat.pow_succ]; simp; omega
    omega
end Ni
namespace Hd
open Go Go.Ab Ni
def wReg : List UInt8 := [114, 101, 103, 105, 115, 116, 101, 114]
def wMea : List UInt8 := [109, 101, 97, 115, 117, 114, 101, 115]
def wHid : List UInt8 := [104, 105, 100, 101]
def wAlo : List UInt8 := [97, 108, 111, 110, 103]
def wAcr : List UInt8 := [97, 99, 114, 111, 115, 115]
def kdW (k : Int) : List UInt8 := if k = 1 then wAlo else wAcr
def lnReg (r : Rg) : List UInt8 := Lib.join (wReg :: wordsOf (l6 r)) [32]
def lnMea (r : Rg) : List UInt8 := Lib.join (wMea :: r.kinds.map kdW) [32]
def lnHid (h : List Int) : List UInt8 := Lib.join (wHid :: wordsOf h) [32]
def linesR (r : Rg) : List (List UInt8) := lnReg r :: lnMea r :: r.hides.map lnHid
def sealR (ls : List (List UInt8)) : List UInt8 := outT ls ls.length ++ [101, 110, 100, 32] ++ digs3 (ctT ls ls.length % 199) ++ [10]
end Hd
namespace Hd
open Go Go.Ab Ni
theorem cut_no {c : UInt8} : ∀ {l : List UInt8}, c ∉ l → cut c l = [l]
  | [], _ => rfl
  | b :: l, h => by
    rw [cut, if_neg (fun e => h (by simp [e])), cut_no (fun k => h (List.mem_cons_of_mem _ k))]
theorem cut_app {c : UInt8} : ∀ {w r : List UInt8}, c ∉ w → cut c (w ++ c :: r) = w :: cut c r
  | [], r, _ => by simp [cut]
  | b :: w, r, h => by
    rw [List.cons_append, cut, if_neg (fun e => h (by simp [e])), cut_app (fun k => h (List.mem_cons_of_mem _ k))]
theorem cut_pre {c : UInt8} : ∀ {ws : List (List UInt8)} {w : List UInt8}, c ∉ w → (∀ x ∈ ws, c ∉ x) → cut c (w ++ (ws.map fun x => c :: x).flatten) = w :: ws
  | [], w, h, _ => by simpa using cut_no h
  | x :: ws, w, h, k => by
    have e : w ++ ((x :: ws).map fun x => c :: x).flatten = w ++ c :: (x ++ (ws.map fun x => c :: x).flatten) := by simp
    rw [e, cut_app h, cut_pre (k x (by simp)) (fun y hy => k y (List.mem_cons_of_mem _ hy))]
theorem cut_out {c : UInt8} : ∀ {ls : List (List UInt8)} {r : List UInt8}, (∀ l ∈ ls, c ∉ l) → cut c ((ls.map fun l => l ++ [c]).flatten ++ r) = ls ++ cut c r
  | [], r, _ => by simp
  | l :: ls, r, h => by
    have e : ((l :: ls).map fun l => l ++ [c]).flatten ++ r = l ++ c :: ((ls.map fun l => l ++ [c]).flatten ++ r) := by simp
    rw [e, cut_app (h l (by simp)), cut_out (fun y hy => h y (List.mem_cons_of_mem _ hy))]; rfl
theorem itoa_fin : ∀ n : Fin 1400, numO 4 (Lib.itoa (n.val : Int)) = some (n.val : Int) ∧ (Lib.itoa (n.val : Int)).length ≤ 4 := by decide +kernel
theorem itoa_four {n : Int} (h : 0 ≤ n ∧ n ≤ 1399) : numO 4 (Lib.itoa n) = some n ∧ (Lib.itoa n).length ≤ 4 := by
  have := itoa_fin ⟨n.toNat, by omega⟩
  rwa [show ((⟨n.toNat, by omega⟩ : Fin 1400).val : Int) = n from (by simp; omega)] at this
theorem numO_not {d : Nat} {w : List UInt8} {n : Int} (h : numO d w = some n) {c : UInt8} (hc : isD c = false) : c ∉ w := fun k => by
  have := List.all_eq_true.1 (numO_facts h).1 c k
  rw [hc] at this; cases this
theorem nums_read : ∀ {l : List Int}, (∀ n ∈ l, Sayd n) → allO (numO 4) (wordsOf l) = some l
  | [], _ => rfl
  | n :: l, h => by
    unfold wordsOf
    rw [List.map_cons, allO, show numO 4 (Lib.itoa n) = some n from h n (by simp), show allO (numO 4) (l.map Lib.itoa) = some l from nums_read fun m hm => h m (List.mem_cons_of_mem _ hm)]
theorem words_not {l : List Int} (h : ∀ n ∈ l, Sayd n) {c : UInt8} (hc : isD c = false) : ∀ w ∈ wordsOf l, c ∉ w := fun w hw => by
  obtain ⟨n, hn, rfl⟩ := List.mem_map.1 hw
  exact numO_not (h n hn) hc
theorem kinds_not {l : List Int} {c : UInt8} (h1 : c ∉ wAlo) (h2 : c ∉ wAcr) : ∀ w ∈ l.map kdW, c ∉ w := fun w hw => by
  obtain ⟨k, _, rfl⟩ := List.mem_map.1 hw
  unfold kdW; split <;> assumption
theorem mem_pre {c : UInt8} (hc : c ≠ 32) {ws : List (List UInt8)} {w : List UInt8} (h : c ∉ w) (k : ∀ x ∈ ws, c ∉ x) : c ∉ w ++ preL ws := fun hm => by
  rcases List.mem_append.1 hm with hm | hm
  · exact h hm
  · obtain ⟨y, hy, hm⟩ := List.mem_flatten.1 hm
    obtain ⟨x, hx, rfl⟩ := List.mem_map.1 hy
    rcases List.mem_cons.1 hm with hm | hm
    · exact hc hm
    · exact k x hx hm
theorem lines_not {r : Rg} (td : TdR r) : ∀ l ∈ linesR r, (10 : UInt8) ∉ l := fun l hl => by
  unfold linesR at hl
  rcases List.mem_cons.1 hl with rfl | hl
  · unfold lnReg; rw [join_eq]; exact mem_pre (by decide) (by decide) (words_not td.head (by decide))
  · rcases List.mem_cons.1 hl with rfl | hl
    · unfold lnMea; rw [join_eq]; exact mem_pre (by decide) (by decide) (kinds_not (by decide) (by decide))
    · obtain ⟨h, hh, rfl⟩ := List.mem_map.1 hl
      unfold lnHid; rw [join_eq]; exact mem_pre (by decide) (by decide) (words_not (td.hide h hh) (by decide))
def endL (c : Int) : List UInt8 := [101, 110, 100, 32] ++ digs3 c
theorem itoa_not {n : Int} (h : 0 ≤ n ∧ n ≤ 1399) {c : UInt8} (hc : isD c = false) : c ∉ Lib.itoa n := numO_not (itoa_four h).1 hc
theorem end_not {c : Int} (h : 0 ≤ c ∧ c ≤ 999) : (10 : UInt8) ∉ endL c := by
  have a1 := itoa_not (n := c / 100) (by omega) (c := 10) (by decide)
  have a2 := itoa_not (n := c / 10 % 10) (by omega) (c := 10) (by decide)
  have a3 := itoa_not (n := c % 10) (by omega) (c := 10) (by decide)
  unfold endL digs3
  simp [a1, a2, a3]
theorem seal_cut {ls : List (List UInt8)} (h : ∀ l ∈ ls, (10 : UInt8) ∉ l) : cut 10 (sealR ls) = ls ++ [endL (ctT ls ls.length % 199), []] := by
  have e : sealR ls = (ls.map fun l => l ++ [10]).flatten ++ (endL (ctT ls ls.length % 199) ++ 10 :: []) := by
    unfold sealR outT endL; rw [List.take_length]; simp
  rw [e, cut_out h, cut_app (end_not (by omega))]; rfl
end Hd
namespace St
open Go Go.Ab Ni
open Hd (numO allO allO_ok allO_inv allO_bad allO_mem wordsOf preL join_eq cut_no cut_app cut_pre cut_out cut_ne numO_facts numO_not numO_word numO_val prelen getD_at endL end_not)
theorem sideO_W {s : Int} (h : 1 ≤ s ∧ s ≤ 3) : sideO (sideW s) = some s := by
  obtain rfl | rfl | rfl : s = 1 ∨ s = 2 ∨ s = 3 := by omega
  all_goals decide
theorem nums_read : ∀ {l : List Int}, (∀ n ∈ l, Dg n) → allO (numO 1) (wordsOf l) = some l
  | [], _ => rfl
  | n :: l, h => by
    unfold wordsOf
    rw [List.map_cons, allO, (dg_num (h n (by simp))).1, show allO (numO 1) (l.map Lib.itoa) = some l from nums_read fun m hm => h m (List.mem_cons_of_mem _ hm)]
theorem words_not {l : List Int} (h : ∀ n ∈ l, Dg n) {c : UInt8} (hc : isD c = false) : ∀ w ∈ wordsOf l, c ∉ w := fun w hw => by
  obtain ⟨n, hn, rfl⟩ := List.mem_map.1 hw
  exact numO_not (dg_num (h n hn)).1 hc
theorem listW_cut {l : List Int} (h : ∀ n ∈ l, Dg n) (hne : l ≠ []) : cut 44 (listW l) = wordsOf l := by
  cases l with
  | nil => exact absurd rfl hne
  | cons n l =>
    unfold listW; rw [if_neg hne]
    unfold wordsOf; rw [List.map_cons, joinc_eq]
    exact cut_pre (numO_not (dg_num (h n (by simp))).1 (by decide)) (words_not (fun m hm => h m (List.mem_cons_of_mem _ hm)) (by decide))
theorem mem_join {c : UInt8} {s : UInt8} (hc : c ≠ s) {ws : List (List UInt8)} {w : List UInt8} (h : c ∉ w) (k : ∀ x ∈ ws, c ∉ x) : c ∉ w ++ (ws.map fun x => s :: x).flatten := fun hm => by
  rcases List.mem_append.1 hm with hm | hm
  · exact h hm
  · obtain ⟨y, hy, hm⟩ := List.mem_flatten.1 hm
    obtain ⟨x, hx, rfl⟩ := List.mem_map.1 hy
    rcases List.mem_cons.1 hm with hm | hm
    · exact hc hm
    · exact k x hx hm
theorem listW_not {l : List Int} (h : ∀ n ∈ l, Dg n) {c : UInt8} (hc : isD c = false) (h45 : c ≠ 45) (h44 : c ≠ 44) : c ∉ listW l := by
  cases l with
  | nil => unfold listW; simpa using h45
  | cons n l =>
    unfold listW; rw [if_neg (by simp)]
    unfold wordsOf; rw [List.map_cons, joinc_eq]
    exact mem_join h44 (numO_not (dg_num (h n (by simp))).1 hc) (words_not (fun m hm => h m (List.mem_cons_of_mem _ hm)) hc)
theorem listW_ne {l : List Int} (h : ∀ n ∈ l, Dg n) (hne : l ≠ []) : listW l ≠ [45] := fun e => by
  have hc := listW_cut h hne
  rw [e] at hc
  have e2 : cut 44 [45] = [[45]] := by decide
  rw [e2] at hc
  cases l with
  | nil => exact absurd rfl hne
  | cons n l =>
    unfold wordsOf at hc
    simp only [List.map_cons, List.cons.injEq] at hc
    have := (numO_facts (dg_num (h n (by simp))).1).1
    rw [← hc.1] at this
    revert this; decide
theorem list_read {l : List Int} (h : ∀ n ∈ l, Dg n) : listO (listW l) = some l := by
  by_cases hne : l = []
  · subst hne; decide
  · unfold listO; rw [if_neg (listW_ne h hne), listW_cut h hne, nums_read h]
theorem sideW_not (s : Int) {c : UInt8} (h1 : c ∉ wLef) (h2 : c ∉ wRig) (h3 : c ∉ wEit) : c ∉ sideW s := by
  unfold sideW; split; exact h1; split; exact h2; exact h3
theorem fig_ws (f : Fgr) (hf : Dg f.rank ∧ Dg f.hands) {c : UInt8} (hc : isD c = false) (hs : c ∉ sideW f.side) : ∀ w ∈ sideW f.side :: wordsOf [f.rank, f.hands], c ∉ w := fun w hw => by
  rcases List.mem_cons.1 hw with rfl | hw
  · exact hs
  · exact words_not (fun n hn => by rcases List.mem_cons.1 hn with rfl | hn; exact hf.1; (obtain rfl := List.mem_singleton.1 hn); exact hf.2) hc w hw
theorem scn_ws {x : Scn} (h : Dg x.knocks ∧ (∀ n ∈ x.moved, Dg n) ∧ (∀ n ∈ x.rest, Dg n) ∧ ∀ n ∈ x.taken, Dg n) {c : UInt8} (hc : isD c = false) (h45 : c ≠ 45) (h44 : c ≠ 44) : ∀ w ∈ Lib.itoa x.knocks :: [listW x.moved, listW x.rest, listW x.taken], c ∉ w := fun w hw => by
  simp only [List.mem_cons, List.not_mem_nil, or_false] at hw
  rcases hw with rfl | rfl | rfl | rfl
  · exact numO_not (dg_num h.1).1 hc
  · exact listW_not h.2.1 hc h45 h44
  · exact listW_not h.2.2.1 hc h45 h44
  · exact listW_not h.2.2.2 hc h45 h44
theorem lines_not {p : Ply} (td : TdP p) : ∀ l ∈ linesS p, (10 : UInt8) ∉ l := fun l hl => by
  unfold linesS at hl
  rcases List.mem_cons.1 hl with rfl | hl
  · unfold lnHead; rw [join_eq]; exact mem_join (by decide) (by decide) (words_not td.head (by decide))
  · rcases List.mem_append.1 hl with hl | hl
    · obtain ⟨f, hf, rfl⟩ := List.mem_map.1 hl
      unfold lnFig; rw [join_eq]
      exact mem_join (by decide) (by decide) (fig_ws f (td.fig f hf).2 (by decide) (sideW_not _ (by decide) (by decide) (by decide)))
    · obtain ⟨x, hx, rfl⟩ := List.mem_map.1 hl
      unfold lnScn; rw [join_eq]
      exact mem_join (by decide) (by decide) (scn_ws (td.scn x hx) (by decide) (by decide) (by decide))
theorem head_cut {p : Ply} (td : TdP p) : cut 32 (lnHead p) = wStem :: wordsOf (p.left :: p.hts) := by
  unfold lnHead; rw [join_eq]; exact cut_pre (by decide) (words_not td.head (by decide))
theorem fig_cut {f : Fgr} (hf : Dg f.rank ∧ Dg f.hands) : cut 32 (lnFig f) = wFig :: sideW f.side :: wordsOf [f.rank, f.hands] := by
  unfold lnFig; rw [join_eq]; exact cut_pre (by decide) (fig_ws f hf (by decide) (sideW_not _ (by decide) (by decide) (by decide)))
theorem scn_cut {x : Scn} (h : Dg x.knocks ∧ (∀ n ∈ x.moved, Dg n) ∧ (∀ n ∈ x.rest, Dg n) ∧ ∀ n ∈ x.taken, Dg n) : cut 32 (lnScn x) = wScn :: Lib.itoa x.knocks :: [listW x.moved, listW x.rest, listW x.taken] := by
  unfold lnScn; rw [join_eq]; exact cut_pre (by decide) (scn_ws h (by decide) (by decide) (by decide))
theorem fig_row {f : Fgr} (hf : (1 ≤ f.side ∧ f.side ≤ 3) ∧ Dg f.rank ∧ Dg f.hands) : rowQ (lnFig f) = some (.fig f) := by
  unfold rowQ
  rw [fig_cut hf.2]
  show (if wFig = wFig then figO (sideW f.side) (Lib.itoa f.rank) (Lib.itoa f.hands) else none) = _
  rw [if_pos rfl]
  unfold figO
  rw [sideO_W hf.1, show [Lib.itoa f.rank, Lib.itoa f.hands] = wordsOf [f.rank, f.hands] from rfl, nums_read (fun n hn => by rcases List.mem_cons.1 hn with rfl | hn; exact hf.2.1; (obtain rfl := List.mem_singleton.1 hn); exact hf.2.2)]
theorem scn_row {x : Scn} (h : Dg x.knocks ∧ (∀ n ∈ x.moved, Dg n) ∧ (∀ n ∈ x.rest, Dg n) ∧ ∀ n ∈ x.taken, Dg n) : rowQ (lnScn x) = some (.scn x) := by
  unfold rowQ
  rw [scn_cut h]
  show (if wScn = wScn then scnO (Lib.itoa x.knocks) (listW x.moved) (listW x.rest) (listW x.taken) else none) = _
  rw [if_pos rfl]
  unfold scnO
  rw [(dg_num h.1).1, list_read h.2.1, list_read h.2.2.1, list_read h.2.2.2]
theorem allO_map {α β γ : Type} {f : α → Option β} {g : γ → α} {k : γ → β} : ∀ {l : List γ}, (∀ x ∈ l, f (g x) = some (k x)) → allO f (l.map g) = some (l.map k)
  | [], _ => rfl
  | x :: l, h => by rw [List.map_cons, allO, h x (by simp), allO_map fun y hy => h y (List.mem_cons_of_mem _ hy), List.map_cons]
theorem allO_append {α β : Type} {f : α → Option β} : ∀ {a b : List α} {x y : List β}, allO f a = some x → allO f b = some y → allO f (a ++ b) = some (x ++ y)
  | [], b, x, y, h1, h2 => by unfold allO at h1; cases h1; simpa using h2
  | w :: a, b, x, y, h1, h2 => by
    unfold allO at h1
    split at h1
    · rename_i n l hn hl
      cases h1
      rw [List.cons_append, allO, hn, allO_append hl h2]; rfl
    · cases h1
theorem figs_fig (l : List Fgr) : figsOf (l.map .fig) = l := by induction l with
  | nil => rfl
  | cons a l ih => exact congrArg (a :: ·) ih
theorem figs_scn (l : List Scn) : figsOf (l.map .scn) = [] := by induction l with
  | nil => rfl
  | cons a l ih => exact ih
theorem scs_fig (l : List Fgr) : scsOf (l.map .fig) = [] := by induction l with
  | nil => rfl
  | cons a l ih => exact ih
theorem scs_scn (l : List Scn) : scsOf (l.map .scn) = l := by induction l with
  | nil => rfl
  | cons a l ih => exact congrArg (a :: ·) ih
theorem seal_cut {ls : List (List UInt8)} (h : ∀ l ∈ ls, (10 : UInt8) ∉ l) : cut 10 (sealS ls) = ls ++ [endL (ctT ls ls.length % 193), []] := by
  have e : sealS ls = (ls.map fun l => l ++ [10]).flatten ++ (endL (ctT ls ls.length % 193) ++ 10 :: []) := by
    unfold sealS outT endL; rw [List.take_length]; simp
  rw [e, cut_out h, cut_app (end_not (by omega))]; rfl
theorem rows_text {p : Ply} (td : TdP p) : rowsS (textS p) = some p := by
  have hc : cut 10 (textS p) = lnHead p :: ((p.figs.map lnFig ++ p.scs.map lnScn) ++ [endL (ctT (linesS p) (linesS p).length % 193), []]) := by
    unfold textS; rw [seal_cut (lines_not td)]; rfl
  unfold rowsS
  rw [hc]
  simp only
  have h1 : topO (lnHead p) = some (p.left, p.hts) := by unfold topO; rw [head_cut td, List.drop_succ_cons, List.drop_zero, nums_read td.head]
  have h2 : allO rowQ (p.figs.map lnFig ++ p.scs.map lnScn) = some (p.figs.map .fig ++ p.scs.map .scn) := allO_append (allO_map fun f hf => fig_row (td.fig f hf)) (allO_map fun x hx => scn_row (td.scn x hx))
  rw [if_pos (by simp; omega), List.length_append, show ([endL (ctT (linesS p) (linesS p).length % 193), ([] : List UInt8)]).length = 2 from rfl, Nat.add_sub_cancel, List.take_left' rfl, h1, h2]
  simp only [figsOf_app, scsOf_app, figs_fig, figs_scn, scs_fig, scs_scn, List.append_nil, List.nil_append]
/-- **A sheet is read as its play.** -/
theorem parse_text {p : Ply} (td : TdP p) : parseS (textS p) = some p := by
  unfold parseS; rw [rows_text td]; simp
end St
namespace Go.Proofs.YtfmpabgblbbcdaaGreatDoor
open Go Go.Ab Ni St
open Hd hiding sz
abbrev C (c : UInt8) : AV := .raw (.int .u8 c.toNat)
theorem rin_pure (n lo hi : Int) : APure Tryz.prog 77 [I n, I lo, I hi] (B (inn n lo hi)) := by
  refine ap Tryz.func77 (fun e0 he0 => ?_)
  refine wz 5 ?_
  refine sz 10 (fun g1 g1' => ?_) (fun g1 g1' => ?_)
  ·refine wz 5 ?_
   exact rz rfl (Less.eq (by simp [inn, *]))
  refine wz 5 ?_
  exact rz rfl (Less.eq (by simp [inn, *]))
end Go.Proofs.YtfmpabgblbbcdaaGreatDoor
namespace Go.Proofs.YtfmpabgblbbcdaaGreatDoor
open Go Go.Ab Ni St
open Hd hiding sz
theorem xprint_ok {p : Ply} (hh : p.hts.length ≤ 1000000) (hf : p.figs.length ≤ 1000000) (hs : p.scs.length ≤ 1000000) (hx : ∀ x ∈ p.scs, x.moved.length ≤ 1000000 ∧ x.rest.length ≤ 1000000 ∧ x.taken.length ≤ 1000000) (h1 : plOK p = true)  : APure Tryz.prog 51 [plA p] (.tup [S (textS p), I 0]) := by
  refine ap Tryz.func51 (fun e0 he0 => ?_)
  refine vz 3 ?_
  refine sq_nil ?_
  refine aw_seq ?_
  refine aw_seq ?_
  have hpl := isplay_pure p hh hf hs hx
  rw [h1] at hpl
  have gP := plOK_B h1
  refine wz 1 ?_
  refine kz az (hpl) ?_
  refine wz 3 ?_
  refine kz az (sheet_pure (sm_ok h1)) ?_
  refine wz 2 ?_
  exact retQ_pure (v := .tup [.raw _, .raw _]) rfl rfl (less_tup ⟨jz, jz, trivial⟩)
end Go.Proofs.YtfmpabgblbbcdaaGreatDoor
namespace Go.Proofs.YtfmpabgblbbcdaaGreatDoor
open Go Go.Ab Ni St
open Hd hiding sz
instance en112 : EnT Tryz.prog 112 := ⟨Ent.of Tryz.func112 (by kernel_rfl) rfl⟩
instance en22 : EnT Tryz.prog 22 := ⟨Ent.of Tryz.func22 (by kernel_rfl) rfl⟩
instance en27 : EnT Tryz.prog 27 := ⟨Ent.of Tryz.func27 (by kernel_rfl) rfl⟩
instance en54 : EnT Tryz.prog 54 := ⟨Ent.of Tryz.func54 (by kernel_rfl) rfl⟩
instance en77 : EnT Tryz.prog 77 := ⟨Ent.of Tryz.func77 (by kernel_rfl) rfl⟩
instance en78 : EnT Tryz.prog 78 := ⟨Ent.of Tryz.func78 (by kernel_rfl) rfl⟩
instance en95 : EnT Tryz.prog 95 := ⟨Ent.of Tryz.func95 (by kernel_rfl) rfl⟩
theorem all_of {α : Type} {q : α → Bool} {l : List α} (h : ∀ j, (hj : j < l.length) → q l[j] = true) : l.all q = true := List.all_eq_true.2 fun x hx => by obtain ⟨j, hj, rfl⟩ := List.getElem_of_mem hx; exact h j hj
theorem all_bad {α : Type} {q : α → Bool} {l : List α} {i : Nat} (hi : i < l.length) (h : q l[i] = false) : l.all q = false := by rw [List.all_eq_false]; exact ⟨_, List.getElem_mem hi, by rw [h]; simp⟩
theorem all_sym (a b : List Int) : (a.all fun n => !decide (n ∈ b)) = b.all fun n => !decide (n ∈ a) := by
  rw [Bool.eq_iff_iff, List.all_eq_true, List.all_eq_true]
  simp only [Bool.not_eq_true', decide_eq_false_iff_not]
  exact ⟨fun h n hn hm => h n hm hn, fun h n hn hm => h n hm hn⟩
theorem fieldsOf_st {P : Program} {t : TypeId} {fs : Array Field} (h : P.underlying t = some (.struct fs)) : P.fieldsOf t = fs := by unfold Program.fieldsOf; rw [h]
theorem figEq (a b c a' b' c' : Int) (w : World) : (Op.equalIn 10000 82 (.agg #[.int .i64 a, .int .i64 b, .int .i64 c]) (.agg #[.int .i64 a', .int .i64 b', .int .i64 c'])).run Tryz.prog w = .ok (decide (a = a') && (decide (b = b') && decide (c = c'))) w := by
  have h3 : Tryz.prog.underlying 3 = some (.int .i64) := Tryz.underlying3
  have h80 : Tryz.prog.underlying 80 = some (.int .i64) := Tryz.underlying80
  rw [run_equalIn_struct w 9999 82 _ _ (by rw [fieldsOf_st Tryz.underlying82]; exact Tryz.underlying82) (by kernel_rfl), fieldsOf_st Tryz.underlying82]
  have q0 : ∀ (x y z : Int) (w : World), (part 80 #[.int .i64 x, .int .i64 y, .int .i64 z] 0).run Tryz.prog w = .ok (.int .i64 x) w := fun x y z w => by
    simp [part, Tryz.isAgg80]
  have q1 : ∀ (x y z : Int) (w : World), (part 3 #[.int .i64 x, .int .i64 y, .int .i64 z] 1).run Tryz.prog w = .ok (.int .i64 y) w := fun x y z w => by
    simp [part, Tryz.isAgg3]
  have q2 : ∀ (x y z : Int) (w : World), (part 3 #[.int .i64 x, .int .i64 y, .int .i64 z] 2).run Tryz.prog w = .ok (.int .i64 z) w := fun x y z w => by
    simp [part, Tryz.isAgg3]
  simp [Op.eqFields, q0, q1, q2, run_equalIn_int _ _ _ _ _ _ _ h3, run_equalIn_int _ _ _ _ _ _ _ h80]
  by_cases h1 : a = a' <;> by_cases h2 : b = b' <;> by_cases h4 : c = c' <;> simp [h1, h2, h4]
theorem ev_neqF {r : Option Nat} {H : List AObj} {ρ : Operand → AV} {d : Option Tmp} {t : TypeId} {p : String} {af : Array Edge} {g : Option (Nat × Bool)} {x y : Operand} {yt : TypeId} {f : Fgr} (hx : Less (ρ x) (.agg (fgC f))) (hy : Less (ρ y) (.agg (fgC f))) : Ev Tryz.prog r ⟨d, .binOp .neq 82 x y yt, t, p, af, g⟩ H ρ (B false) :=
  ev_less (ev_neq_agg (by kernel_rfl) (figEq f.side f.rank f.hands f.side f.rank f.hands) (Less.trans hx (less_agg_raw (vs := [.int .i64 f.side, .int .i64 f.rank, .int .i64 f.hands]) rfl)) (Less.trans hy (less_agg_raw (vs := [.int .i64 f.side, .int .i64 f.rank, .int .i64 f.hands]) rfl))) (Less.eq (by simp))
theorem has_pure (l : List Int) (n : Int) (hl : l.length ≤ 1000000) : APure Tryz.prog 27 [ints l, I n] (B (decide (n ∈ l))) := by
  refine ap Tryz.func27 (fun e0 he0 => ?_)
  refine wz 2 ?_
  refine aw_loopk (ι := { k : Nat // k ≤ l.length ∧ ∀ i, (hi : i < l.length) → i < k → l[i] ≠ n }) [0, 1] (fun i => [(5, I i.1)]) (fun H i => H) (fun i => l.length - i.1) (⟨0, Nat.zero_le _, by omega⟩) ⟨jz, jz, jz, trivial⟩ rfl ?_
  rintro ⟨k, hk, hok⟩
  refine nz ?_
  refine wz 4 ?_
  refine iz (fun c_9 c_9' => ?_) (fun c_9 c_9' => ?_)
  ·have hkL : k < l.length := by omega
   refine wz 6 ?_
   refine iz (fun c_17 c_17' => ?_) (fun c_17 c_17' => ?_)
   ·have hmem : n ∈ l := by have h5 := of_decide_eq_true c_17; exact h5 ▸ List.getElem_mem hkL
    refine wz 1 ?_
    exact rz rfl (Less.eq (by rw [decide_eq_true hmem]))
   refine wz 3 ?_
   exact ⟨⟨k + 1, by omega, fun i hi h => (by by_cases e : i = k; (subst e; simpa using c_17); exact hok i hi (by omega))⟩, by simp only; omega, Sub.slots ⟨jz, jz, jz, trivial⟩⟩
  obtain rfl : k = l.length := by omega
  have hno : ¬ n ∈ l := fun h => by obtain ⟨i, hi, h6⟩ := List.getElem_of_mem h; exact hok i hi hi h6
  refine wz 1 ?_
  exact rz rfl (Less.eq (by rw [decide_eq_false hno]))
theorem rrising_pure (l : List Int) (n : Nat) (hl : l.length ≤ 1000000) (hn : n ≤ 1000000) : APure Tryz.prog 95 [ints l, I n] (B (rising l n)) := by
  refine ap Tryz.func95 (fun e0 he0 => ?_)
  refine wz 2 ?_
  refine aw_loopk (ι := { k : Nat // k ≤ l.length ∧ ∀ i, (hi : i < l.length) → i < k → (0 ≤ l[i] ∧ l[i] < n) ∧ (0 < i → l[i - 1] < l[i]) }) [0, 1] (fun i => [(5, I i.1)]) (fun H i => H) (fun i => l.length - i.1) (⟨0, Nat.zero_le _, by omega⟩) ⟨jz, jz, jz, trivial⟩ rfl ?_
  rintro ⟨k, hk1, hok⟩
  refine nz ?_
  refine wz 4 ?_
  refine iz (fun c_9 c_9' => ?_) (fun c_9 c_9' => ?_)
  ·have hkl : k < l.length := by omega
   have hin : inn l[k] 0 ((n : Int) - 1) = true ↔ 0 ≤ l[k] ∧ l[k] ≤ (n : Int) - 1 := by unfold inn; simp
   refine wz 0 ?_
   refine aw_draw 24 mo (by kernel_rfl) ?_
   refine dz 6 ?_
   refine dkz az (rin_pure _ _ _) ?_
   refine dz 2 ?_
   refine dsz 20 (fun g4_8 g4_8' => ?_) (fun g4_8 g4_8' => ?_)
   ·have hb0 : ¬ (0 ≤ l[k] ∧ l[k] ≤ (n : Int) - 1) := fun q => by rw [hin.2 q] at g4_8; simp at g4_8
    have hno : rising l n = false := rising_no hkl (fun q => hb0 (by omega))
    refine dz 15 ?_
    refine wz 2 ?_
    exact rz rfl (Less.eq (by rw [hno]))
   have hb1 : 0 ≤ l[k] ∧ l[k] ≤ (n : Int) - 1 := hin.1 (by simpa using g4_8)
   refine dz 3 ?_
   refine dsz 23 (fun g4_11 g4_11' => ?_) (fun g4_11 g4_11' => ?_)
   ·refine dz 7 ?_
    refine dr_yes rfl rfl (less_b g4_11) rfl (ev_index_map (k := k - 1) sl22.h jz jz (by omega) (by omega)) ?_
    refine dz 4 ?_
    refine wz 0 ?_
    refine iz (fun c_35 c_35' => ?_) (fun c_35 c_35' => ?_)
    ·have hno : rising l n = false := rising_no hkl (fun q => by have h5 := q.2 (by omega); have h6 := of_decide_eq_true c_35; omega)
     refine wz 1 ?_
     exact rz rfl (Less.eq (by rw [hno]))
    have hst : (0 ≤ l[k] ∧ l[k] < n) ∧ (0 < k → l[k - 1] < l[k]) := ⟨by omega, fun q => by have := of_decide_eq_false c_35; omega⟩
    refine wz 3 ?_
    exact ⟨⟨k + 1, by omega, fun i hi q => by rcases Nat.lt_or_ge i k with q2 | q2; exact hok i hi q2; (obtain rfl : i = k := by omega); exact hst⟩, by simp only; omega, Sub.slots ⟨jz, jz, jz, trivial⟩⟩
   have hst : (0 ≤ l[k] ∧ l[k] < n) ∧ (0 < k → l[k - 1] < l[k]) := ⟨by omega, fun q => by omega⟩
   refine dz 12 ?_
   refine wz 4 ?_
   exact ⟨⟨k + 1, by omega, fun i hi q => by rcases Nat.lt_or_ge i k with q2 | q2; exact hok i hi q2; (obtain rfl : i = k := by omega); exact hst⟩, by simp only; omega, Sub.slots ⟨jz, jz, jz, trivial⟩⟩
  obtain rfl : k = l.length := by omega
  have hall := rising_yes fun i hi => hok i hi hi
  refine wz 1 ?_
  exact rz rfl (Less.eq (by rw [hall]))
theorem rscene_pure (p : Ply) (x : Scn) (h1 : x.moved.length ≤ 1000000) (h2 : x.rest.length ≤ 1000000) (h3 : x.taken.length ≤ 1000000) (hh : p.hts.length ≤ 1000000) (hf : p.figs.length ≤ 1000000) : APure Tryz.prog 78 [plA p, .agg (scC x)] (B (scOK p x)) := by
  refine ap Tryz.func78 (fun e0 he0 => ?_)
  refine wz 8 ?_
  refine kz az (rrising_pure x.moved p.figs.length h1 hf) ?_
  refine wz 2 ?_
  refine sz 13 (fun g1_7 g1_7' => ?_) (fun g1_7 g1_7' => ?_)
  ·refine wz 31 ?_
   exact rz rfl (Less.eq (congrArg B (by unfold scOK; simp [*])))
  refine wz 5 ?_
  refine ky az (rrising_pure x.rest p.figs.length h2 hf) ?_
  refine wz 3 ?_
  refine sz 22 (fun g1_16 g1_16' => ?_) (fun g1_16 g1_16' => ?_)
  ·refine wz 22 ?_
   exact rz rfl (Less.eq (congrArg B (by unfold scOK; simp [*])))
  refine wz 5 ?_
  refine ky az (rrising_pure x.taken p.hts.length h3 hh) ?_
  refine wz 3 ?_
  refine sz 31 (fun g1_25 g1_25' => ?_) (fun g1_25 g1_25' => ?_)
  ·refine wz 13 ?_
   exact rz rfl (Less.eq (congrArg B (by unfold scOK; simp [*])))
  refine wz 6 ?_
  refine sz 37 (fun g1_31 g1_31' => ?_) (fun g1_31 g1_31' => ?_)
  ·have k31 : ¬ x.rest.length ≤ 4 := by omega
   refine wz 7 ?_
   exact rz rfl (Less.eq (congrArg B (by unfold scOK; simp [*])))
  have k31 : x.rest.length ≤ 4 := by omega
  refine wz 2 ?_
  refine ky az (rin_pure _ _ _) ?_
  refine wz 2 ?_
  refine iz (fun c_42 c_42' => ?_) (fun c_42 c_42' => ?_)
  ·refine wz 1 ?_
   exact rz rfl (Less.eq (congrArg B (by unfold scOK; simp [*])))
  refine wz 1 ?_
  refine aw_loopk (ι := { k : Nat // k ≤ x.rest.length ∧ ∀ i, (hi : i < x.rest.length) → i < k → (!decide (x.rest[i] ∈ x.moved)) = true }) [3] (fun i => [(5, I i.1)]) (fun H i => H) (fun i => x.rest.length - i.1) (⟨0, Nat.zero_le _, by omega⟩) ⟨jz, jz, trivial⟩ rfl ?_
  rintro ⟨k, hk, hok⟩
  refine nz ?_
  refine wz 5 ?_
  refine iz (fun c_47 c_47' => ?_) (fun c_47 c_47' => ?_)
  ·have hkL : k < x.rest.length := by omega
   refine wz 0 ?_
   refine aw_draw 8 mo (by kernel_rfl) ?_
   refine dz 7 ?_
   refine dkz az (has_pure _ _ h1) ?_
   refine dr_end ?_
   refine wz 0 ?_
   refine iz (fun c_57 c_57' => ?_) (fun c_57 c_57' => ?_)
   ·have hbad : (x.rest.all fun n => !decide (n ∈ x.moved)) = false := all_bad hkL (by rw [decide_eq_true (of_decide_eq_true c_57)]; rfl)
    refine wz 1 ?_
    exact rz rfl (Less.eq (congrArg B (by unfold scOK; rw [all_sym, hbad]; simp)))
   refine wz 3 ?_
   exact ⟨⟨k + 1, by omega, fun i hi h => (by by_cases e : i = k; (subst e; rw [decide_eq_false (of_decide_eq_false c_57)]; rfl); exact hok i hi (by omega))⟩, by simp only; omega, Sub.slots ⟨jz, jz, trivial⟩⟩
  obtain rfl : k = x.rest.length := by omega
  have hall : (x.rest.all fun n => !decide (n ∈ x.moved)) = true := all_of fun j hj => hok j hj hj
  refine wz 1 ?_
  exact rz rfl (Less.eq (congrArg B (by unfold scOK; rw [all_sym, hall]; simp_all)))
theorem rplay_pure (p : Ply) (hh : p.hts.length ≤ 1000000) (hf : p.figs.length ≤ 1000000) (hs : p.scs.length ≤ 1000000) (hx : ∀ x ∈ p.scs, x.moved.length ≤ 1000000 ∧ x.rest.length ≤ 1000000 ∧ x.taken.length ≤ 1000000) : APure Tryz.prog 22 [plA p] (B (plOK p)) := by
  refine ap Tryz.func22 (fun e0 he0 => ?_)
  refine wz 5 ?_
  refine kz az (rin_pure _ _ _) ?_
  refine wz 2 ?_
  refine sz 12 (fun g1_5 g1_5' => ?_) (fun g1_5 g1_5' => ?_)
  ·refine wz 24 ?_
   exact rz rfl (Less.eq (by unfold plOK; simp_all))
  refine wz 3 ?_
  refine ky az (rin_pure _ _ _) ?_
  refine wz 3 ?_
  refine sz 19 (fun g1_12 g1_12' => ?_) (fun g1_12 g1_12' => ?_)
  ·refine wz 17 ?_
   exact rz rfl (Less.eq (by unfold plOK; simp_all))
  refine wz 3 ?_
  refine ky az (rin_pure _ _ _) ?_
  refine wz 3 ?_
  refine sz 26 (fun g1_19 g1_19' => ?_) (fun g1_19 g1_19' => ?_)
  ·refine wz 10 ?_
   exact rz rfl (Less.eq (by unfold plOK; simp_all))
  refine wz 5 ?_
  refine ky az (rin_pure _ _ _) ?_
  refine wz 2 ?_
  refine iz (fun c_34 c_34' => ?_) (fun c_34 c_34' => ?_)
  ·refine wz 1 ?_
   exact rz rfl (Less.eq (by unfold plOK; simp_all))
  refine wz 1 ?_
  refine aw_loopk (ι := { k : Nat // k ≤ p.hts.length ∧ ∀ i, (hi : i < p.hts.length) → i < k → inn p.hts[i] 1 9 = true }) [1] (fun i => [(3, I i.1)]) (fun H i => H) (fun i => p.hts.length - i.1) (⟨0, Nat.zero_le _, by omega⟩) ⟨jz, jz, trivial⟩ rfl ?_
  rintro ⟨k, hk, hok⟩
  refine nz ?_
  refine wz 5 ?_
  refine iz (fun c_39 c_39' => ?_) (fun c_39 c_39' => ?_)
  ·have hkl : k < p.hts.length := by omega
   refine wz 5 ?_
   refine kz az (rin_pure _ _ _) ?_
   refine wz 1 ?_
   refine iz (fun c_48 c_48' => ?_) (fun c_48 c_48' => ?_)
   ·have hbad : (p.hts.all fun n => inn n 1 9) = false := all_bad hkl (by simpa using c_48)
    refine wz 1 ?_
    exact rz rfl (Less.eq (by unfold plOK; rw [hbad]; simp))
   refine wz 3 ?_
   exact ⟨⟨k + 1, by omega, fun i hi h => (by by_cases e : i = k; (subst e; simpa using c_48); exact hok i hi (by omega))⟩, by simp only; omega, Sub.slots ⟨jz, jz, trivial⟩⟩
  obtain rfl : k = p.hts.length := by omega
  have hall1 : (p.hts.all fun n => inn n 1 9) = true := all_of fun j hj => hok j hj hj
  refine wz 1 ?_
  refine aw_loopk (ι := { k : Nat // k ≤ p.figs.length ∧ ∀ i, (hi : i < p.figs.length) → i < k → fgOK p.figs[i] = true }) [1] (fun i => [(4, I i.1)]) (fun H i => H) (fun i => p.figs.length - i.1) (⟨0, Nat.zero_le _, by omega⟩) ⟨jz, jz, trivial⟩ rfl ?_
  rintro ⟨k, hk2, hok2⟩
  refine nz ?_
  refine wz 5 ?_
  refine iz (fun c_53 c_53' => ?_) (fun c_53 c_53' => ?_)
  ·have hfl : k < p.figs.length := by omega
   have hfe : fgOK p.figs[k] = ((!decide (p.figs[k].side < 1) && !decide (p.figs[k].side > 3)) && inn p.figs[k].rank 1 9 && inn p.figs[k].hands 1 2) := by unfold fgOK; rw [show inn p.figs[k].side 1 3 = (!(decide (p.figs[k].side < 1)) && !(decide (p.figs[k].side > 3))) by unfold inn; rw [Bool.eq_iff_iff]; simp]
   refine wz 11 ?_
   refine sz 64 (fun g12_3 g12_3' => ?_) (fun g12_3 g12_3' => ?_)
   ·have hbad : p.figs.all fgOK = false := all_bad hfl (by rw [hfe]; simp [*])
    refine wz 18 ?_
    exact rz rfl (Less.eq (by unfold plOK; rw [hbad]; simp))
   refine wz 5 ?_
   refine sz 69 (fun g12_8 g12_8' => ?_) (fun g12_8 g12_8' => ?_)
   ·have hbad : p.figs.all fgOK = false := all_bad hfl (by rw [hfe]; simp [*])
    refine wz 13 ?_
    exact rz rfl (Less.eq (by unfold plOK; rw [hbad]; simp))
   refine wz 2 ?_
   refine ky az (rin_pure _ _ _) ?_
   refine wz 3 ?_
   refine sz 75 (fun g12_14 g12_14' => ?_) (fun g12_14 g12_14' => ?_)
   ·have hbad : p.figs.all fgOK = false := all_bad hfl (by rw [hfe]; simp [*])
    refine wz 7 ?_
    exact rz rfl (Less.eq (by unfold plOK; rw [hbad]; simp))
   refine wz 2 ?_
   refine ky az (rin_pure _ _ _) ?_
   refine wz 2 ?_
   refine iz (fun c_80 c_80' => ?_) (fun c_80 c_80' => ?_)
   ·have hbad : p.figs.all fgOK = false := all_bad hfl (by rw [hfe]; simp [*])
    refine wz 1 ?_
    exact rz rfl (Less.eq (by unfold plOK; rw [hbad]; simp))
   have hfg : fgOK p.figs[k] = true := by rw [hfe]; simp [*]
   refine wz 3 ?_
   exact ⟨⟨k + 1, by omega, fun i hi h => (by by_cases e : i = k; (subst e; exact hfg); exact hok2 i hi (by omega))⟩, by simp only; omega, sb 1 ⟨jz, jz, trivial⟩⟩
  obtain rfl : k = p.figs.length := by omega
  have hall2 : p.figs.all fgOK = true := all_of fun j hj => hok2 j hj hj
  refine wz 1 ?_
  refine aw_loopk (ι := { k : Nat // k ≤ p.scs.length ∧ ∀ i, (hi : i < p.scs.length) → i < k → scOK p p.scs[i] = true }) [1] (fun i => [(6, I i.1)]) (fun H i => H) (fun i => p.scs.length - i.1) (⟨0, Nat.zero_le _, by omega⟩) ⟨jz, jz, trivial⟩ rfl ?_
  rintro ⟨k, hk3, hok3⟩
  refine nz ?_
  refine wz 5 ?_
  refine iz (fun c_85 c_85' => ?_) (fun c_85 c_85' => ?_)
  ·have hsl : k < p.scs.length := by omega
   have hxk := hx _ (List.getElem_mem hsl)
   refine wz 0 ?_
   refine aw_draw 8 mo (by kernel_rfl) ?_
   refine dz 6 ?_
   refine dkz az (rscene_pure p _ hxk.1 hxk.2.1 hxk.2.2 hh hf) ?_
   refine dz 1 ?_
   refine wz 0 ?_
   refine iz (fun c_95 c_95' => ?_) (fun c_95 c_95' => ?_)
   ·have hbad : p.scs.all (scOK p) = false := all_bad hsl (by simpa using c_95)
    refine wz 1 ?_
    exact rz rfl (Less.eq (by unfold plOK; rw [hbad]; simp))
   refine wz 3 ?_
   exact ⟨⟨k + 1, by omega, fun i hi h => (by by_cases e : i = k; (subst e; simpa using c_95); exact hok3 i hi (by omega))⟩, by simp only; omega, Sub.slots ⟨jz, jz, trivial⟩⟩
  obtain rfl : k = p.scs.length := by omega
  have hall3 : p.scs.all (scOK p) = true := all_of fun j hj => hok3 j hj hj
  refine wz 1 ?_
  exact rz rfl (Less.eq (by unfold plOK; rw [hall1, hall2, hall3]; simp_all))
theorem samesc_pure (l : List Scn) (hs : l.length ≤ 1000000) (hx : ∀ x ∈ l, x.moved.length ≤ 1000000 ∧ x.rest.length ≤ 1000000 ∧ x.taken.length ≤ 1000000) : APure Tryz.prog 112 [scs l, scs l] (B true) := by
  refine ap Tryz.func112 (fun e0 he0 => ?_)
  refine wz 6 ?_
  refine iz (fun c_10 c_10' => ?_) (fun c_10 c_10' => ?_)
  ·exfalso
   simp at c_10
  refine wz 1 ?_
  refine aw_loopk (ι := { k : Nat // k ≤ l.length }) [0, 1] (fun i => [(5, I i.1)]) (fun H i => H) (fun i => l.length - i.1) (⟨0, Nat.zero_le _⟩) ⟨jz, jz, jz, trivial⟩ rfl ?_
  rintro ⟨k, hk⟩
  refine nz ?_
  refine wz 4 ?_
  refine iz (fun c_14 c_14' => ?_) (fun c_14 c_14' => ?_)
  ·have hkl : k < l.length := by omega
   have hxk := hx _ (List.getElem_mem hkl)
   refine wz 0 ?_
   refine aw_draw 53 mo (by kernel_rfl) ?_
   refine dz 12 ?_
   refine dsz 28 (fun g6_11 g6_11' => ?_) (fun g6_11 g6_11' => ?_)
   ·exfalso
    simp at g6_11
   refine dz 10 ?_
   refine dky az (same_t hxk.1 hxk.1 rfl) ?_
   refine dz 3 ?_
   refine dsz 42 (fun g6_25 g6_25' => ?_) (fun g6_25 g6_25' => ?_)
   ·exfalso
    simp at g6_25
   refine dz 10 ?_
   refine dky az (same_t hxk.2.1 hxk.2.1 rfl) ?_
   refine dz 3 ?_
   refine dsz 56 (fun g6_39 g6_39' => ?_) (fun g6_39 g6_39' => ?_)
   ·exfalso
    simp at g6_39
   refine dz 10 ?_
   refine dky az (same_t hxk.2.2 hxk.2.2 rfl) ?_
   refine dz 2 ?_
   refine wz 0 ?_
   refine iz (fun c_69 c_69' => ?_) (fun c_69 c_69' => ?_)
   ·exfalso
    simp at c_69
   refine wz 3 ?_
   exact ⟨⟨k + 1, by omega⟩, by simp only; omega, Sub.slots ⟨jz, jz, jz, trivial⟩⟩
  refine wz 1 ?_
  exact rz rfl (Less.eq rfl)
theorem samepl_pure (p : Ply) (hh : p.hts.length ≤ 1000000) (hf : p.figs.length ≤ 1000000) (hs : p.scs.length ≤ 1000000) (hx : ∀ x ∈ p.scs, x.moved.length ≤ 1000000 ∧ x.rest.length ≤ 1000000 ∧ x.taken.length ≤ 1000000) : APure Tryz.prog 54 [plA p, plA p] (B true) := by
  refine ap Tryz.func54 (fun e0 he0 => ?_)
  refine wz 9 ?_
  refine sz 11 (fun g1_5 g1_5' => ?_) (fun g1_5 g1_5' => ?_)
  ·exfalso
   simp at g1_5
  refine wz 4 ?_
  refine ky az (same_t hh hh rfl) ?_
  refine wz 3 ?_
  refine sz 19 (fun g1_13 g1_13' => ?_) (fun g1_13 g1_13' => ?_)
  ·exfalso
   simp at g1_13
  refine wz 8 ?_
  refine iz (fun c_27 c_27' => ?_) (fun c_27 c_27' => ?_)
  ·exfalso
   simp at c_27
  refine wz 1 ?_
  refine aw_loopk (ι := { k : Nat // k ≤ p.figs.length }) [2, 3] (fun i => [(5, I i.1)]) (fun H i => H) (fun i => p.figs.length - i.1) (⟨0, Nat.zero_le _⟩) ⟨jz, jz, jz, trivial⟩ rfl ?_
  rintro ⟨k, hk⟩
  refine nz ?_
  refine wz 5 ?_
  refine iz (fun c_32 c_32' => ?_) (fun c_32 c_32' => ?_)
  ·have hkl : k < p.figs.length := by omega
   refine wz 0 ?_
   refine aw_draw 11 mo (by kernel_rfl) ?_
   refine dz 10 ?_
   refine dr_ev rfl (ev_neqF jz jz) ?_
   refine dr_end ?_
   refine wz 0 ?_
   refine iz (fun c_45 c_45' => ?_) (fun c_45 c_45' => ?_)
   ·exfalso
    simp at c_45
   refine wz 3 ?_
   exact ⟨⟨k + 1, by omega⟩, by simp only; omega, Sub.slots ⟨jz, jz, jz, trivial⟩⟩
  refine wz 4 ?_
  refine kz az (samesc_pure p.scs hs hx) ?_
  refine wz 1 ?_
  exact rz rfl jz
end Go.Proofs.YtfmpabgblbbcdaaGreatDoor
namespace Go.Proofs.YtfmpabgblbbcdaaGreatDoor
open Go Go.Ab Ni St
open Hd hiding sz
instance en20 : EnT Tryz.prog 20 := ⟨Ent.of Tryz.func20 (by kernel_rfl) rfl⟩
instance en51 : EnT Tryz.prog 51 := ⟨Ent.of Tryz.func51 (by kernel_rfl) rfl⟩
section
variable [Tabs]
section seq
variable {c : Ctx} {ops : Array Oper} {Q : AExit → St → Prop} {rest : List Oper} {s : St} {i : Nat}
variable {d : Option Tmp} {t : TypeId} {p : String} {af : Array Edge}
end seq
section ev
variable {P : Program} {r : Option Nat} {H : List AObj} {ρ : Operand → AV}
variable {d : Option Tmp} {t : TypeId} {p : String} {af : Array Edge} {g : Option (Nat × Bool)}
end ev
end
end Go.Proofs.YtfmpabgblbbcdaaGreatDoor
namespace Go.Proofs.YtfmpabgblbbcdaaGreatDoor
open Go Go.Ab Ni St
open Hd hiding sz
instance en113 : EnT Tryz.prog 113 := ⟨Ent.of Tryz.func113 (by kernel_rfl) rfl⟩
instance en114 : EnT Tryz.prog 114 := ⟨Ent.of Tryz.func114 (by kernel_rfl) rfl⟩
instance en115 : EnT Tryz.prog 115 := ⟨Ent.of Tryz.func115 (by kernel_rfl) rfl⟩
instance en116 : EnT Tryz.prog 116 := ⟨Ent.of Tryz.func116 (by kernel_rfl) rfl⟩
theorem bs_extract (s : List UInt8) (lo hi : Nat) : (⟨s.toArray⟩ : ByteArray).extract lo hi = ⟨((s.take hi).drop lo).toArray⟩ := by
  apply ByteArray.ext
  rw [ByteArray.data_extract]
  apply Array.ext'
  simp [List.drop_take]
theorem cut_piece {c : UInt8} {s : List UInt8} {f i : Nat} (hf : f ≤ i) (hi : i < s.length) (hc : s[i] = c) (hn : ∀ j (h : j < s.length), f ≤ j → j < i → s[j] ≠ c) : cut c (s.drop f) = ((s.take i).drop f) :: cut c (s.drop (i + 1)) := by
  have e : s.drop f = (s.take i).drop f ++ c :: s.drop (i + 1) := by
    have h1 : s.take i ++ s.drop i = s := List.take_append_drop i s
    have h2 : s.drop i = c :: s.drop (i + 1) := by rw [← hc]; exact List.drop_eq_getElem_cons hi
    conv => lhs; rw [← h1, h2, List.drop_append_of_le_length (by simp; omega)]
  rw [e]
  refine cut_app fun hm => ?_
  obtain ⟨j, hj, ej⟩ := List.getElem_of_mem hm
  rw [List.length_drop, List.length_take] at hj
  rw [List.getElem_drop, List.getElem_take] at ej
  exact hn (f + j) (by omega) (by omega) (by omega) ej
theorem cut_last {c : UInt8} {s : List UInt8} {f : Nat} (hn : ∀ j (h : j < s.length), f ≤ j → s[j] ≠ c) : cut c (s.drop f) = [s.drop f] := by
  refine cut_no fun hm => ?_
  obtain ⟨j, hj, ej⟩ := List.getElem_of_mem hm
  rw [List.length_drop] at hj
  rw [List.getElem_drop] at ej
  exact hn (f + j) (by omega) (by omega) ej
theorem u8_ne {a c : UInt8} (h : ¬ (a.toNat : Int) = c.toNat) : a ≠ c := fun e => h (by rw [e])
theorem u8_eq {a c : UInt8} (h : (a.toNat : Int) = c.toNat) : a = c := UInt8.toNat_inj.1 (by omega)
theorem cut_step {c : UInt8} {s : List UInt8} {f i : Nat} {out : List (List UInt8)} (hfi : f ≤ i) (hi : i < s.length) (hc : s[i] = c) (hn : ∀ j (h : j < s.length), f ≤ j → j < i → s[j] ≠ c) (he : out ++ cut c (s.drop f) = cut c s) : (out ++ [(s.take i).drop f]) ++ cut c (s.drop (i + 1)) = cut c s := by
  rw [← he, cut_piece hfi hi hc hn]; simp
theorem none_ext {c : UInt8} {s : List UInt8} {f i : Nat} (h2 : ∀ h : i < s.length, s[i] ≠ c) (hn : ∀ j (h : j < s.length), f ≤ j → j < i → s[j] ≠ c) : ∀ j (h : j < s.length), f ≤ j → j < i + 1 → s[j] ≠ c := fun j h h1 h3 => by
  by_cases e : j = i
  · subst e; exact h2 h
  · exact hn j h h1 (by omega)
theorem valN_9999 {l : List UInt8} {k : Nat} (hk : k ≤ l.length) (h4 : k ≤ 4) (h : ∀ i, (h : i < l.length) → i < k → isD l[i] = true) : 0 ≤ valN (l.take k) ∧ valN (l.take k) < 10000 := by
  have h1 := valN_bd hk h
  have h2 : (10 ^ k : Nat) ≤ 10 ^ 4 := Nat.pow_le_pow_right (by decide) h4
  omega
def numQ (d : Nat) (w : List UInt8) : Int × Bool := if w = [] ∨ d < w.length then (0, false) else if ¬ w.all isD = true then (0, false) else (valN w, decide (Lib.itoa (valN w) = w))
theorem numQ_some {d : Nat} {w : List UInt8} {n : Int} (h : numO d w = some n) : numQ d w = (n, true) := by
  unfold numO at h
  split at h
  · rename_i g
    simp only [Option.some.injEq] at h; subst h
    unfold numQ
    rw [if_neg (by intro k; rcases k with k | k; exact g.2.2.1 k; omega), if_neg (by simpa using g.1), decide_eq_true g.2.2.2]
  · cases h
theorem numQ_none {d : Nat} {w : List UInt8} (h : numO d w = none) : (numQ d w).2 = false := by
  unfold numO at h
  split at h
  · cases h
  · rename_i g
    unfold numQ
    split
    · rfl
    · split
      · rfl
      · rename_i g1 g2
        simp only [decide_eq_false_iff_not]
        intro e
        exact g ⟨Decidable.not_not.1 g2, by omega, fun k => g1 (.inl k), e⟩
theorem numQ_long {d : Nat} {w : List UInt8} (h : w = [] ∨ d < w.length) : numQ d w = (0, false) := by unfold numQ; rw [if_pos h]
theorem numQ_dig {d : Nat} {w : List UInt8} {k : Nat} (hk : k < w.length) (h : isD w[k] = false) : numQ d w = (0, false) := by
  unfold numQ
  split
  · rfl
  · rw [if_pos (by intro g; have := List.all_eq_true.1 g _ (List.getElem_mem hk); rw [h] at this; cases this)]
theorem numQ_end {d : Nat} {w : List UInt8} (h : ¬ (w = [] ∨ d < w.length)) (hd : ∀ i, (h : i < w.length) → isD w[i] = true) : numQ d w = (valN w, decide (Lib.itoa (valN w) = w)) := by
  unfold numQ
  rw [if_neg h, if_neg (by
    simp only [Decidable.not_not, List.all_eq_true]
    intro x hx
    obtain ⟨i, hi, rfl⟩ := List.getElem_of_mem hx
    exact hd i hi)]
theorem numQ_T {d : Nat} {w : List UInt8} (h : (numQ d w).2 = true) : numO d w = some (numQ d w).1 := by
  cases e : numO d w with
  | none => rw [numQ_none e] at h; cases h
  | some n => rw [numQ_some e]
theorem numQ_F {d : Nat} {w : List UInt8} (h : (numQ d w).2 = false) : numO d w = none := by
  cases e : numO d w with
  | none => rfl
  | some n => rw [numQ_some e] at h; cases h
def numsV (d : Nat) (ws : List (List UInt8)) : List Int := (allO (numO d) ws).getD []
def numsK (d : Nat) (ws : List (List UInt8)) (k : Nat) : List Int := (ws.take k).map fun w => (numQ d w).1
theorem numsK_succ {d : Nat} {ws : List (List UInt8)} {k : Nat} (h : k < ws.length) : numsK d ws (k + 1) = numsK d ws k ++ [(numQ d ws[k]).1] := by unfold numsK; rw [List.take_succ_eq_append_getElem h, List.map_append]; rfl
theorem numsK_len (d : Nat) (ws : List (List UInt8)) (k : Nat) : (numsK d ws k).length ≤ ws.length := by unfold numsK; rw [List.length_map, List.length_take]; omega
theorem numsK_all {d : Nat} {ws : List (List UInt8)} (h : ∀ i, (h : i < ws.length) → i < ws.length → numO d ws[i] = some (numQ d ws[i]).1) : allO (numO d) ws = some (numsK d ws ws.length) :=
  allO_ok (by unfold numsK; simp) fun i h1 h2 => by rw [h i h2 h2]; simp [numsK]
theorem rsplit_pure (s : List UInt8) (c : UInt8) (hs : s.length ≤ 1000000) : APure Tryz.prog 113 [S s, .raw (.int .u8 c.toNat)] (.sl 1 ((cut c s).map fun p => [S p])) := by
  refine ap Tryz.func113 (fun e0 he0 => ?_) (hr := by simp [AV.pureL, AV.pureB, AV.pureE, pureE_map])
  refine vz 4 ?_
  refine sq_nil ?_
  refine aw_block ?_
  refine aw_sub (sub_token 5 1 jz) ?_
  refine aw_loopk (ι := { x : Nat × Nat × List (List UInt8) // (x.1 ≤ s.length ∧ x.2.1 ≤ x.1) ∧ (∀ j, (h : j < s.length) → x.2.1 ≤ j → j < x.1 → s[j] ≠ c) ∧ x.2.2 ++ cut c (s.drop x.2.1) = cut c s }) [0, 1] (fun x => [(7, I x.1.1), (6, I x.1.2.1), (5, .own 0 1 ((x.1.2.2).map (fun p => [S p])))]) (fun H x => [.tok (x.1.2.2.map (fun p => [S p])).length]) (fun x => s.length - x.1.1) (⟨(0, 0, []), ⟨Nat.zero_le _, Nat.le_refl _⟩, fun j _ _ h => by simp at h, by simp⟩) ⟨jz, jz, jz, jz, jz, trivial⟩ rfl ?_
  rintro ⟨⟨i, f, out⟩, ⟨hi, hfi⟩, hno, hcut⟩
  refine nz ?_
  simp only at hi hfi hno hcut
  have hcl := cut_len c s
  have hol : out.length ≤ s.length + 1 := by have := congrArg List.length hcut; rw [List.length_append] at this; omega
  refine wz 4 ?_
  refine iz (fun c_11 c_11' => ?_) (fun c_11 c_11' => ?_)
  ·have hiL : i < s.length := by omega
   refine wz 5 ?_
   refine iz (fun c_18 c_18' => ?_) (fun c_18 c_18' => ?_)
   ·refine wz 4 ?_
    refine sq_ev rfl (ev_less (ev_slice_str (s := ⟨s.toArray⟩) (lo := f) (hi := i) Tryz.underlying9 jz jz jz hfi (by rw [bs_size]; omega)) (Less.eq (b := S ((s.take i).drop f)) (by rw [bs_extract]))) ?_
    refine sq_ev rfl (ev_buildSlice (es := [[_]]) sf134.h rfl rfl rfl rfl) ?_
    first | refine sq_append rfl sf134.h Tryz.underlying134 rfl rfl jz (Nat.succ_pos _) (by simp; omega) (by simp; omega) ?_ | refine sq_append rfl sf134.h Tryz.underlying134 rfl rfl (less_slx _ _) (Nat.succ_pos _) (by simp; omega) (by simp; omega) ?_
    refine wz 7 ?_
    exact ⟨⟨(i + 1, i + 1, out ++ [(s.take i).drop f]), ⟨by simp only; omega, Nat.le_refl _⟩, fun j _ h1 h2 => by simp only at h1 h2; omega, cut_step hfi hiL (u8_eq c_18') hno hcut⟩, by simp only; omega, sb 1 ⟨jz, jz, Less.eq (b := .own 0 1 ((out ++ [(s.take i).drop f]).map (fun p => [S p]))) (by rw [List.map_append] <;> rfl), jz, jz, trivial⟩ (hH := (congrArg (fun n => [AObj.tok n]) (by simp)))⟩
   refine wz 3 ?_
   exact ⟨⟨(i + 1, f, out), ⟨by simp only; omega, by simp only; omega⟩, none_ext (fun _ => u8_ne c_18') hno, hcut⟩, by simp only; omega, sb 1 ⟨jz, jz, jz, jz, jz, trivial⟩ (hH := rfl)⟩
  obtain rfl : i = s.length := by omega
  have hlast := cut_last (c := c) (s := s) (f := f) (fun j h h2 => hno j h h2 (by omega))
  rw [hlast] at hcut
  refine wz 3 ?_
  refine sq_ev rfl (ev_less (ev_slice_str (s := ⟨s.toArray⟩) (lo := f) (hi := s.length) Tryz.underlying9 jz jz (by rw [bs_size]) (by omega) (by rw [bs_size]; omega)) (Less.eq (b := S (s.drop f)) (by rw [bs_extract, List.take_length]))) ?_
  refine sq_ev rfl (ev_buildSlice (es := [[_]]) sf134.h rfl rfl rfl rfl) ?_
  first | refine sq_append rfl sf134.h Tryz.underlying134 rfl rfl jz (Nat.succ_pos _) (by simp; omega) (by simp; omega) ?_ | refine sq_append rfl sf134.h Tryz.underlying134 rfl rfl (less_slx _ _) (Nat.succ_pos _) (by simp; omega) (by simp; omega) ?_
  refine wz 1 ?_
  exact retQ_pure (v := .own _ _ _) rfl rfl (Less.trans (less_own _ _ _) (Less.eq (by rw [← hcut]; simp)))
theorem rnumber_pure (d : Nat) (hd : d ≤ 4) (w : List UInt8) (hw : w.length ≤ 1000000) : APure Tryz.prog 115 [S w, I d] (.tup [I (numQ d w).1, B (numQ d w).2]) := by
  refine ap Tryz.func115 (fun e0 he0 => ?_)
  refine wz 6 ?_
  refine sz 11 (fun g1_3 g1_3' => ?_) (fun g1_3 g1_3' => ?_)
  ·have hwe : w = [] := List.length_eq_zero_iff.1 (by omega)
   refine wz 8 ?_
   exact retQ_pure (v := .tup [.raw _, .raw _]) rfl rfl (Less.eq (by rw [numQ_long (.inl hwe)]))
  have hw0 : w ≠ [] := fun e => g1_3' (by rw [e]; rfl)
  refine wz 5 ?_
  refine iz (fun c_16 c_16' => ?_) (fun c_16 c_16' => ?_)
  ·refine wz 2 ?_
   exact retQ_pure (v := .tup [.raw _, .raw _]) rfl rfl (Less.eq (by rw [numQ_long (.inr (by omega))]))
  have hlen : ¬ (w = [] ∨ d < w.length) := by rintro (h | h); exact hw0 h; omega
  have hl3 : w.length ≤ 4 := by omega
  refine wz 2 ?_
  refine aw_loopk (ι := { k : Nat // k ≤ w.length ∧ ∀ i, (h : i < w.length) → i < k → isD w[i] = true }) [0] (fun k => [(7, I k.1), (6, I (valN (w.take k.1)))]) (fun H k => H) (fun k => w.length - k.1) (⟨0, Nat.zero_le _, by omega⟩) ⟨jz, (by exact less_int (by simp [valN])), jz, trivial⟩ rfl ?_
  rintro ⟨k, hk, hds⟩
  refine nz ?_
  have hv := valN_9999 hk (by omega) hds
  refine wz 4 ?_
  refine iz (fun c_20 c_20' => ?_) (fun c_20 c_20' => ?_)
  ·have hkL : k < w.length := by omega
   have hb8 : (w[k]).toNat < 256 := UInt8.toNat_lt _
   refine wz 5 ?_
   refine sz 27 (fun g7_4 g7_4' => ?_) (fun g7_4 g7_4' => ?_)
   ·refine wz 8 ?_
    exact retQ_pure (v := .tup [.raw _, .raw _]) rfl rfl (Less.eq (by rw [numQ_dig hkL (show isD w[k] = false from by rw [← Bool.not_eq_true, isD_iff]; omega)]))
   refine wz 5 ?_
   refine iz (fun c_32 c_32' => ?_) (fun c_32 c_32' => ?_)
   ·refine wz 2 ?_
    exact retQ_pure (v := .tup [.raw _, .raw _]) rfl rfl (Less.eq (by rw [numQ_dig hkL (show isD w[k] = false from by rw [← Bool.not_eq_true, isD_iff]; omega)]))
   have hdk : isD w[k] = true := (isD_iff _).2 (by omega)
   refine wz 12 ?_
   exact ⟨⟨k + 1, by omega, fun i h hi => (by by_cases e : i = k; (subst e; exact hdk); exact hds i h (by omega))⟩, by simp only; omega, Sub.slots ⟨jz, (by exact less_int (valN_take hkL).symm), jz, trivial⟩⟩
  obtain rfl : k = w.length := by omega
  have htk : w.take w.length = w := List.take_length
  have hv1 := hv
  rw [htk] at hv
  refine wz 2 ?_
  refine kz az (rdecimal_pure _ (by omega)) ?_
  refine wz 4 ?_
  exact retQ_pure (v := .tup [.raw _, .raw _]) rfl rfl (Less.eq (by rw [numQ_end hlen (fun i h => hds i h h)]; simp [htk]))
theorem rnumbers_pure (d : Nat) (hd : d ≤ 4) (ws : List (List UInt8)) (hw : ws.length ≤ 1000000) (hb : ∀ w ∈ ws, w.length ≤ 1000000) : APure Tryz.prog 114 [.sl 1 (ws.map fun p => [S p]), I d] (.tup [ints (numsV d ws), B (allO (numO d) ws).isSome]) := by
  refine ap Tryz.func114 (fun e0 he0 => ?_) (hr := by simp [AV.pureL, AV.pureB, AV.pureE, pureE_map])
  refine vz 4 ?_
  refine sq_nil ?_
  refine aw_block ?_
  refine aw_sub (sub_token 6 1 jz) ?_
  refine aw_loopk (ι := { k : Nat // k ≤ ws.length ∧ ∀ i, (h : i < ws.length) → i < k → numO d ws[i] = some (numQ d ws[i]).1 }) [0, 1] (fun i => [(7, I i.1), (6, .own 0 1 ((numsK d ws i.1).map fun x => [I x]))]) (fun H i => H.set 0 (.tok ((numsK d ws i.1).map fun x => [I x]).length)) (fun i => ws.length - i.1) (⟨0, Nat.zero_le _, by omega⟩) ⟨jz, jz, jz, jz, trivial⟩ rfl ?_
  rintro ⟨k, hk, hok⟩
  refine nz ?_
  have hnl := numsK_len d ws k
  refine wz 4 ?_
  refine iz (fun c_13 c_13' => ?_) (fun c_13 c_13' => ?_)
  ·have hkL : k < ws.length := by omega
   refine wz 5 ?_
   refine kz az (rnumber_pure d hd ws[k] (hb _ (List.getElem_mem hkL))) ?_
   refine wz 7 ?_
   refine iz (fun c_26 c_26' => ?_) (fun c_26 c_26' => ?_)
   ·have hns : allO (numO d) ws = none := allO_bad hkL (numQ_F (by simpa using c_26))
    refine wz 2 ?_
    exact retQ_pure (v := .tup [.raw _, .raw _]) rfl rfl (Less.trans (b := .tup [.sl 1 [], B false]) (less_tup ⟨less_nil 1, jz, trivial⟩) (Less.eq (by simp [numsV, hns])))
   have hnk : numO d ws[k] = some (numQ d ws[k]).1 := numQ_T (by simpa using c_26)
   have eS : ((numsK d ws (k + 1)).map fun x => [I x]) = ((numsK d ws k).map fun x => [I x]) ++ [[I (numQ d ws[k]).1]] := by rw [numsK_succ hkL, List.map_append]; rfl
   refine wz 2 ?_
   refine sq_ev rfl (ev_buildSlice (es := [[_]]) sf22.h rfl rfl rfl rfl) ?_
   first | refine sq_append rfl sf22.h Tryz.underlying22 rfl rfl jz (Nat.succ_pos _) (by simp; omega) (by simp; omega) ?_ | refine sq_append rfl sf22.h Tryz.underlying22 rfl rfl (less_slx _ _) (Nat.succ_pos _) (by simp; omega) (by simp; omega) ?_
   refine wz 4 ?_
   exact ⟨⟨k + 1, by omega, fun i h hi => (by by_cases e : i = k; (subst e; exact hnk); exact hok i h (by omega))⟩, by simp only; omega, sb 1 ⟨jz, Less.eq (by rw [eS] <;> rfl), jz, jz, trivial⟩ (hH := (congrArg (fun n => [AObj.tok n]) (congrArg List.length eS.symm)))⟩
  obtain rfl : k = ws.length := by omega
  have hns : allO (numO d) ws = some (numsK d ws ws.length) := numsK_all hok
  refine wz 3 ?_
  exact retQ_pure (v := .tup [.own _ _ _, .raw _]) rfl rfl (Less.trans (b := .tup [ints (numsK d ws ws.length), B true]) (less_tup ⟨less_own _ _ _, jz, trivial⟩) (Less.eq (by simp [numsV, hns])))
theorem rsplit10 (s : List UInt8) (hs : s.length ≤ 1000000) : APure Tryz.prog 113 [S s, .raw (.int .u8 10)] (.sl 1 ((cut 10 s).map fun p => [S p])) := rsplit_pure s 10 hs
theorem rsplit32 (s : List UInt8) (hs : s.length ≤ 1000000) : APure Tryz.prog 113 [S s, .raw (.int .u8 32)] (.sl 1 ((cut 32 s).map fun p => [S p])) := rsplit_pure s 32 hs
theorem rsplit44 (s : List UInt8) (hs : s.length ≤ 1000000) : APure Tryz.prog 113 [S s, .raw (.int .u8 44)] (.sl 1 ((cut 44 s).map fun p => [S p])) := rsplit_pure s 44 hs
def lisD (w : List UInt8) : List Int := (listO w).getD []
theorem lisD_some {w : List UInt8} {l : List Int} (h : listO w = some l) : lisD w = l := by unfold lisD; rw [h]; rfl
theorem lis_dash {w : List UInt8} (h : w = [45]) : listO w = some [] := by unfold listO; rw [if_pos h]
theorem lis_num {w : List UInt8} (h : ¬ w = [45]) : listO w = allO (numO 1) (cut 44 w) := by unfold listO; rw [if_neg h]
theorem lis_T {w : List UInt8} (h : (listO w).isSome = true) : listO w = some (lisD w) := by
  obtain ⟨l, e⟩ := Option.isSome_iff_exists.1 h
  rw [lisD_some e]; exact e
theorem rword_pure (w : List UInt8) (hw : w.length ≤ 100000) : APure Tryz.prog 116 [S w] (.tup [ints (lisD w), B (listO w).isSome]) := by
  refine ap Tryz.func116 (fun e0 he0 => ?_) (hr := by simp [AV.pureL, AV.pureB, AV.pureE, pureE_map])
  refine wz 4 ?_
  refine iz (fun c_5 c_5' => ?_) (fun c_5 c_5' => ?_)
  ·refine wz 2 ?_
   exact retQ_pure (v := .tup [.raw _, .raw _]) rfl rfl (Less.trans (b := .tup [.sl 1 [], B true]) (less_tup ⟨less_nil 1, jz, trivial⟩) (Less.eq (by rw [lisD_some (lis_dash (by simpa using c_5')), lis_dash (by simpa using c_5')]; rfl)))
  refine aw_skip ?_
  refine aw_seq ?_
  have hcl := cut_len 44 w
  have hcm := cut_mem 44 w
  refine wz 1 ?_
  refine kz az (rsplit44 w (by omega)) ?_
  refine kz az (rnumbers_pure 1 (by omega) (cut 44 w) (by omega) (fun x hx => by have := hcm x hx; omega)) ?_
  refine wz 4 ?_
  exact retQ_pure (v := .tup [.sl _ _, .raw _]) rfl rfl (Less.eq (by unfold lisD; rw [lis_num (by simpa using c_5')]; rfl))
end Go.Proofs.YtfmpabgblbbcdaaGreatDoor
namespace Go.Proofs.YtfmpabgblbbcdaaGreatDoor
open Go Go.Ab Ni St
open Hd hiding sz
instance en55 : EnT Tryz.prog 55 := ⟨Ent.of Tryz.func55 (by kernel_rfl) rfl⟩
theorem allO_snoc {α β : Type} {f : α → Option β} {x : α} : ∀ {a : List α} {q : List β}, allO f (a ++ [x]) = some q → ∃ q' y, allO f a = some q' ∧ f x = some y ∧ q = q' ++ [y]
  | [], q, h => by
    rw [List.nil_append] at h
    unfold allO at h
    split at h
    · rename_i y l hy hl
      unfold allO at hl
      cases hl; cases h
      exact ⟨[], y, rfl, hy, rfl⟩
    · cases h
  | w :: a, q, h => by
    rw [List.cons_append] at h
    unfold allO at h
    split at h
    · rename_i y l hy hl
      cases h
      obtain ⟨q', z, h1, h2, h3⟩ := allO_snoc hl
      exact ⟨y :: q', z, by unfold allO; rw [hy, h1], h2, by rw [h3]; rfl⟩
    · cases h
def sdR (w : List UInt8) : Int := if w = wRig then 2 else if w = wLef then 1 else 3
theorem sdR_ok (w : List UInt8) : 1 ≤ sdR w ∧ sdR w ≤ 3 := by unfold sdR; split; omega; split <;> omega
theorem sdR_O {w : List UInt8} {s : Int} (h : sideO w = some s) : sdR w = s := by
  unfold sideO at h
  split at h
  · rename_i e; cases h; subst e; decide
  · split at h
    · rename_i e; cases h; subst e; decide
    · split at h
      · rename_i e; cases h; subst e; decide
      · cases h
def RdI (r0 : List UInt8) (rs : List (List UInt8)) (i : Nat) (p : Ply) : Prop :=
  (i = 0 ∧ p = ply0) ∨ ∃ h : Int × List Int, topO r0 = some h ∧ 1 ≤ i ∧ i + 1 ≤ rs.length ∧ p.left = h.1 ∧ p.hts = h.2 ∧
    (∀ f ∈ p.figs, (1 ≤ f.side ∧ f.side ≤ 3) ∧ Dg f.rank ∧ Dg f.hands) ∧ p.figs.length + 1 ≤ i ∧ p.scs.length + 1 ≤ i ∧
    (∀ x ∈ p.scs, ∃ m ∈ rs, rowQ m = some (.scn x)) ∧ ∀ q, allO rowQ (rs.take (i - 1)) = some q → p.figs = figsOf q ∧ p.scs = scsOf q
theorem rd_td {r0 : List UInt8} {rs : List (List UInt8)} {i : Nat} {p : Ply} (h : RdI r0 rs i p) : TdP p := by
  rcases h with ⟨_, rfl⟩ | ⟨hd, h0, _, _, e1, e2, hf, _, _, hx, _⟩
  · exact ⟨(fun n hn => by rw [show ply0.left :: ply0.hts = [0] from rfl, List.mem_singleton] at hn; subst hn; exact ⟨by decide, by decide⟩), (fun f hf => absurd hf (by simp)), (fun x hx => absurd hx (by simp))⟩
  · refine ⟨by rw [e1, e2]; exact head_dg h0, hf, fun x hm => ?_⟩
    obtain ⟨m, _, hw⟩ := hx x hm
    exact words_td hw
theorem head_row {r0 : List UInt8} {a : Int} {l : List Int} (h : topO r0 = some (a, l)) : (wStem ++ preL (wordsOf (a :: l))).length ≤ r0.length + 4 := by
  unfold topO at h
  split at h
  · rename_i l2 hs hn
    simp only [Option.some.injEq, Prod.mk.injEq] at h
    obtain ⟨rfl, rfl⟩ := h
    have hw := nums_words hn
    have hj := cut_joins r0
    cases hc : cut 32 r0 with
    | nil => exact absurd hc (cut_ne 32 r0)
    | cons w0 ws =>
      rw [hc, List.drop_succ_cons, List.drop_zero] at hw
      rw [hc, join_eq, ← hw] at hj
      have := congrArg List.length hj
      rw [List.length_append] at this ⊢
      have h4 : wStem.length = 4 := rfl
      omega
  · cases h
theorem rd_sm {r0 : List UInt8} {rs : List (List UInt8)} {i : Nat} {p : Ply} (b0 : r0.length ≤ 500) (bm : ∀ m ∈ rs, m.length ≤ 500) (bn : rs.length ≤ 501) (h : RdI r0 rs i p) : SmP p := by
  have td := rd_td h
  rcases h with ⟨_, rfl⟩ | ⟨hd, h0, _, hil, e1, e2, hf, lf, lx, hx, _⟩
  · refine ⟨td, by decide, by decide, by decide, fun x hx => (by cases hx), fun l hl => ?_⟩
    have : linesS ply0 = [lnHead ply0] := rfl
    rw [this, List.mem_singleton] at hl; subst hl
    have := head_len td
    exact Nat.le_trans this (by decide)
  · have hhl : p.hts.length ≤ 500 := by
      rw [e2]
      unfold topO at h0
      split at h0
      · rename_i l hs' hn
        cases h0
        have e1 := (allO_inv hn).1
        have e2 := (cut_len 32 r0).1
        simp at e1; show hs'.length ≤ 500; omega
      · cases h0
    refine ⟨td, by omega, by omega, by omega, fun x hm l hl => ?_, fun l hl => ?_⟩
    · obtain ⟨m, hm2, hw⟩ := hx x hm
      have := scn_lens hw l hl
      have := bm m hm2
      omega
    · unfold linesS at hl
      rcases List.mem_cons.1 hl with rfl | hl
      · have := head_row (a := hd.1) (l := hd.2) h0
        have e : lnHead p = wStem ++ preL (wordsOf (hd.1 :: hd.2)) := by rw [← e1, ← e2]; exact join_eq _ _
        rw [e]; omega
      · rcases List.mem_append.1 hl with hl | hl
        · obtain ⟨f, hf2, rfl⟩ := List.mem_map.1 hl
          have := fig_len (hf f hf2).2
          omega
        · obtain ⟨x, hm, rfl⟩ := List.mem_map.1 hl
          obtain ⟨m, hm2, hw⟩ := hx x hm
          have e : lnScn x = m := row_line hw
          rw [e]
          have := bm m hm2
          omega
theorem rd_end {s r0 : List UInt8} {rs : List (List UInt8)} {i : Nat} {p : Ply} (hR : cut 10 s = r0 :: rs) (h : RdI r0 rs i p) (hi : ¬ (i : Int) < ((r0 :: rs).length : Int) - 2) :
    parseS s = if textS p = s then some p else none := by
  by_cases e : textS p = s
  · rw [if_pos e, ← e]; exact St.parse_text (rd_td h)
  · rw [if_neg e]
    cases hp : parseS s with
    | none => rfl
    | some p' =>
      exfalso
      have ht := parseS_text hp
      have hrow : rowsS s = some p' := by
        unfold parseS at hp
        split at hp
        · rename_i q hq; split at hp
          · cases hp; exact hq
          · cases hp
        · cases hp
      unfold rowsS at hrow
      rw [hR] at hrow
      simp only [List.length_cons] at hrow hi
      split at hrow
      · rename_i h2
        split at hrow
        · rename_i h0 q e0 e1
          cases hrow
          rcases h with ⟨rfl, _⟩ | ⟨hd, g0, gi, gl, g1, g2, _, _, _, _, hq⟩
          · omega
          · have ei : i - 1 = rs.length - 2 := by omega
            rw [g0] at e0; cases e0
            obtain ⟨f1, f2⟩ := hq q (by rw [ei]; exact e1)
            refine e ?_
            rw [← ht]
            congr 1
            cases p
            simp only at g1 g2 f1 f2
            rw [g1, g2, f1, f2]
        · cases hrow
      · cases hrow
theorem take_pred {rs : List (List UInt8)} {i : Nat} (h1 : 1 ≤ i) (hi : i - 1 < rs.length) : rs.take (i + 1 - 1) = rs.take (i - 1) ++ [rs[i - 1]] := by
  have := List.take_succ_eq_append_getElem hi
  rwa [show i - 1 + 1 = i + 1 - 1 by omega] at this
theorem rd_step {r0 : List UInt8} {rs : List (List UInt8)} {i : Nat} {p p' : Ply} (h : RdI r0 rs i p) (h1 : 1 ≤ i) (hi : i + 1 < rs.length) (e1 : p'.left = p.left) (e2 : p'.hts = p.hts)
    (hf : (∀ f ∈ p'.figs, f ∈ p.figs ∨ ((1 ≤ f.side ∧ f.side ≤ 3) ∧ Dg f.rank ∧ Dg f.hands)) ∧ p'.figs.length ≤ p.figs.length + 1) (hx : (∀ x ∈ p'.scs, x ∈ p.scs ∨ rowQ (rs[i - 1]'(by omega)) = some (.scn x)) ∧ p'.scs.length ≤ p.scs.length + 1)
    (hq : ∀ y, rowQ (rs[i - 1]'(by omega)) = some y → p'.figs = p.figs ++ figsOf [y] ∧ p'.scs = p.scs ++ scsOf [y]) : RdI r0 rs (i + 1) p' := by
  rcases h with ⟨h0, _⟩ | ⟨hd, g0, gi, gl, g1, g2, gf, lf, lx, gx, gq⟩
  · omega
  · refine .inr ⟨hd, g0, by omega, by omega, by rw [e1, g1], by rw [e2, g2], fun f hm => ?_, by have := hf.2; omega, by have := hx.2; omega, fun x hm => ?_, fun q hall => ?_⟩
    · rcases hf.1 f hm with hm | hm
      · exact gf f hm
      · exact hm
    · rcases hx.1 x hm with hm | hm
      · exact gx x hm
      · exact ⟨_, List.getElem_mem (by omega), hm⟩
    · rw [take_pred h1 (by omega)] at hall
      obtain ⟨q', y, a1, a2, rfl⟩ := allO_snoc hall
      obtain ⟨b1, b2⟩ := gq q' a1
      obtain ⟨c1, c2⟩ := hq y a2
      rw [figsOf_app, scsOf_app, c1, c2, b1, b2]; exact ⟨rfl, rfl⟩
theorem rd_skip {r0 : List UInt8} {rs : List (List UInt8)} {i : Nat} {p : Ply} (h : RdI r0 rs i p) (h1 : 1 ≤ i) (hi : i + 1 < rs.length) (hn : rowQ (rs[i - 1]'(by omega)) = none) : RdI r0 rs (i + 1) p :=
  rd_step h h1 hi rfl rfl ⟨fun f hf => .inl hf, by omega⟩ ⟨fun x hx => .inl hx, by omega⟩ fun y hy => by rw [hn] at hy; cases hy
theorem rd_fig {r0 : List UInt8} {rs : List (List UInt8)} {i : Nat} {p : Ply} {b c d : List UInt8} {m n : Int} (h : RdI r0 rs i p) (h1 : 1 ≤ i) (hi : i + 1 < rs.length) (hc : cut 32 (rs[i - 1]'(by omega)) = [wFig, b, c, d]) (hn : allO (numO 1) [c, d] = some [m, n]) :
    RdI r0 rs (i + 1) { p with figs := p.figs ++ [⟨sdR b, m, n⟩] } := by
  have hd := nums_dg hn
  refine rd_step h h1 hi rfl rfl ⟨fun f hf => ?_, by simp⟩ ⟨fun x hx => .inl hx, by simp⟩ fun y hy => ?_
  · rcases List.mem_append.1 hf with hf | hf
    · exact .inl hf
    · obtain rfl := List.mem_singleton.1 hf
      exact .inr ⟨sdR_ok b, hd m (by simp), hd n (by simp)⟩
  · unfold rowQ at hy
    rw [hc, words_fig] at hy
    unfold figO at hy
    rw [hn] at hy
    split at hy
    · rename_i s r k hs e
      cases e; cases hy
      rw [sdR_O hs]
      exact ⟨rfl, (List.append_nil _).symm⟩
    · cases hy
theorem rd_scn {r0 : List UInt8} {rs : List (List UInt8)} {i : Nat} {p : Ply} {b c d e : List UInt8} {n : Int} {l1 l2 l3 : List Int} (h : RdI r0 rs i p) (h1 : 1 ≤ i) (hi : i + 1 < rs.length) (hc : cut 32 (rs[i - 1]'(by omega)) = [wScn, b, c, d, e]) (hn : numO 1 b = some n) (a1 : listO c = some l1) (a2 : listO d = some l2) (a3 : listO e = some l3) :
    RdI r0 rs (i + 1) { p with scs := p.scs ++ [⟨l1, l2, n, l3⟩] } := by
  have hq : rowQ (rs[i - 1]'(by omega)) = some (.scn ⟨l1, l2, n, l3⟩) := by unfold rowQ; rw [hc, words_scn]; unfold scnO; rw [hn, a1, a2, a3]
  refine rd_step h h1 hi rfl rfl ⟨fun f hf => .inl hf, by simp⟩ ⟨fun x hx => ?_, by simp⟩ fun y hy => ?_
  · rcases List.mem_append.1 hx with hx | hx
    · exact .inl hx
    · obtain rfl := List.mem_singleton.1 hx
      exact .inr hq
  · rw [hq] at hy; cases hy
    exact ⟨(List.append_nil _).symm, rfl⟩
theorem rd_bad {s r0 : List UInt8} {rs : List (List UInt8)} {i : Nat} (hR : cut 10 s = r0 :: rs) (h1 : 1 ≤ i) (hi : i + 1 < rs.length) (hn : rowQ (rs[i - 1]'(by omega)) = none) : parseS s = none := by
  refine bad_none hR (allO_bad (k := i - 1) (by rw [List.length_take]; omega) ?_)
  rw [List.getElem_take]; exact hn
theorem scn_bad {b c d e : List UInt8} (h : numO 1 b = none ∨ listO c = none ∨ listO d = none ∨ listO e = none) : scnO b c d e = none := by
  unfold scnO
  rcases h with h | h | h | h <;> rw [h]
  · cases numO 1 b <;> rfl
  · cases numO 1 b <;> cases listO c <;> rfl
  · cases numO 1 b <;> cases listO c <;> cases listO d <;> rfl
theorem none_of {α : Type} {o : Option α} (h : o.isSome = false) : o = none := by cases o <;> simp_all
def refAV (s : List UInt8) : AV := match parseS s with | some p => .tup [plA p, B true] | none => .tup [plA ply0, B false]
theorem refAV_pure (s : List UInt8) : (refAV s).pureB = true := by unfold refAV; split <;> simp [AV.pureL, AV.pureB, AV.pureE, pureE_map]
theorem ref_no {s : List UInt8} (h : parseS s = none) : refAV s = .tup [plA ply0, B false] := by unfold refAV; rw [h]
theorem ref_yes {s : List UInt8} {p : Ply} (h : parseS s = some p) : refAV s = .tup [plA p, B true] := by unfold refAV; rw [h]
abbrev rcC (p : Ply) : List AV := [I p.left, ints p.hts, .own 2 3 (p.figs.map fgC), .own 3 4 (p.scs.map scC)]
theorem less_rc (p : Ply) : Less (.agg (rcC p)) (plA p) := less_agg ⟨jz, jz, less_own _ _ _, less_own _ _ _, trivial⟩
theorem z_less : LessL [I 0, .raw (.slice none 0 0), .own 2 3 [], .own 3 4 []] (rcC ply0) := ⟨jz, less_nil 1, jz, jz, trivial⟩
theorem row_fig_none {row w0 b c d : List UInt8} (hW : cut 32 row = [w0, b, c, d]) (h0 : w0 = wFig) (hn : allO (numO 1) [c, d] = none) : rowQ row = none := by
  unfold rowQ; rw [hW, h0, words_fig]; exact fig_num hn
theorem row_scn_none {row w0 b c d e : List UInt8} (hW : cut 32 row = [w0, b, c, d, e]) (h0 : w0 = wScn) (hn : numO 1 b = none ∨ listO c = none ∨ listO d = none ∨ listO e = none) : rowQ row = none := by
  unfold rowQ; rw [hW, h0, words_scn]; exact scn_bad hn
theorem row_none {row w0 : List UInt8} {ws : List (List UInt8)} (hW : cut 32 row = w0 :: ws) (h1 : ¬ (w0 = wFig ∧ ws.length + 1 = 4)) (h2 : ¬ (w0 = wScn ∧ ws.length + 1 = 5)) : rowQ row = none := by
  unfold rowQ; rw [hW]; exact words_none (by simp) (by simpa using h1) (by simpa using h2)
theorem three {ws : List (List UInt8)} (h : ws.length = 3) : ∃ a b c, ws = [a, b, c] := by
  match ws, h with
  | [a, b, c], _ => exact ⟨a, b, c, rfl⟩
theorem two_ints {l : List Int} (h : l.length = 2) : ∃ a b, l = [a, b] := by
  match l, h with
  | [a, b], _ => exact ⟨a, b, rfl⟩
theorem pos_ints {l : List Int} (h : ¬ l.length = 0) : ∃ a m, l = a :: m := by
  match l, h with
  | a :: m, _ => exact ⟨a, m, rfl⟩
theorem rd_0 {r0 : List UInt8} {rs : List (List UInt8)} {p : Ply} (h : RdI r0 rs 0 p) : p = ply0 := by
  rcases h with ⟨_, h⟩ | ⟨_, _, h, _⟩
  · exact h
  · omega
theorem rd_1 {r0 : List UInt8} {rs : List (List UInt8)} {a : Int} {l : List Int} (h : topO r0 = some (a, l)) (h2 : 2 ≤ rs.length) : RdI r0 rs 1 ⟨a, l, [], []⟩ :=
  .inr ⟨(a, l), h, Nat.le_refl _, h2, rfl, rfl, fun f hf => (by cases hf), Nat.le_refl _, Nat.le_refl _, fun x hx => (by cases hx), fun q hq => by
    rw [show 1 - 1 = 0 from rfl, List.take_zero] at hq
    unfold allO at hq; cases hq; exact ⟨rfl, rfl⟩⟩
theorem sdR_l {b : List UInt8} (h1 : b = wLef) (h2 : ¬ b = wRig) : sdR b = 1 := by unfold sdR; rw [if_neg h2, if_pos h1]
theorem sdR_r {b : List UInt8} (h2 : b = wRig) : sdR b = 2 := by unfold sdR; rw [if_pos h2]
theorem sdR_e {b : List UInt8} (h1 : ¬ b = wLef) (h2 : ¬ b = wRig) : sdR b = 3 := by unfold sdR; rw [if_neg h2, if_neg h1]
theorem rread_pure (s : List UInt8) (hs : s.length ≤ 500) : APure Tryz.prog 55 [S s] (refAV s) := by
  refine ap Tryz.func55 (fun e0 he0 => ?_) (hr := refAV_pure s)
  refine wz 4 ?_
  refine kz az (rsplit10 s (by omega)) ?_
  refine vz 1 ?_
  refine sq_nil ?_
  refine aw_seq ?_
  refine aw_seq ?_
  generalize hR : cut 10 s = R
  have hRl := cut_len 10 s
  have hRm := cut_mem 10 s
  rw [hR] at hRl hRm
  obtain ⟨r0, rs, rfl⟩ : ∃ r0 rs, R = r0 :: rs := by cases R with | nil => simp at hRl | cons a l => exact ⟨a, l, rfl⟩
  have hrs9 : rs.length ≤ s.length := by have h := hRl.1; rw [List.length_cons] at h; omega
  have hLR : (r0 :: rs).length = rs.length + 1 := rfl
  have hb0 : r0.length ≤ 500 := Nat.le_trans (hRm r0 (by simp)) hs
  have hbm : ∀ m ∈ rs, m.length ≤ 500 := fun m hm => Nat.le_trans (hRm m (List.mem_cons_of_mem _ hm)) hs
  have hbn : rs.length ≤ 501 := by omega
  refine vz 1 ?_
  refine sq_nil ?_
  refine aw_block ?_
  refine aw_sub (sub_token_cell 1 3 [I 0, .raw (.slice none 0 0)] [.raw (.slice none 0 0)] rfl) ?_
  refine aw_sub (sub_token_cell 1 4 [I 0, .raw (.slice none 0 0), .own 2 3 []] [] rfl) ?_
  refine aw_sub (sub_recell (b := 1) (l := [I 0, .raw (.slice none 0 0), .own 2 3 [], .own 3 4 []]) (l' := rcC ply0) rfl (fun e a _ vs hv => z_less.rep hv)) ?_
  refine nz ?_
  refine aw_loopk (ι := { x : Nat × Ply // x.1 ≤ rs.length + 1 ∧ RdI r0 rs x.1 x.2 }) [0, 2, 4, 5] (fun x => [(6, I x.1.1)]) (fun H x => ((H.set 1 (.cells (rcC x.1.2))).set 2 (.tok (x.1.2.figs.map fgC).length)).set 3 (.tok (x.1.2.scs.map scC).length)) (fun x => rs.length + 1 - x.1.1) (⟨(0, ply0), Nat.zero_le _, .inl ⟨rfl, rfl⟩⟩) ⟨jz, jz, jz, jz, jz, trivial⟩ rfl ?_
  rintro ⟨⟨i, r⟩, hil, hinv⟩
  refine nz ?_
  simp only at hil hinv
  have hsm := rd_sm hb0 hbm hbn hinv
  have hnf := hsm.nf
  have hns := hsm.ns
  refine wz 5 ?_
  refine iz (fun c_27 c_27' => ?_) (fun c_27 c_27' => ?_)
  ·have hir : i < (r0 :: rs).length := by omega
   refine wz 4 ?_
   refine kz az (rsplit32 (r0 :: rs)[i] (by have := hRm _ (List.getElem_mem hir); omega)) ?_
   refine vz 1 ?_
   refine sq_nil ?_
   refine aw_block ?_
   refine aw_seq ?_
   generalize hW : cut 32 (r0 :: rs)[i] = W9
   have hwl := cut_mem 32 (r0 :: rs)[i]
   have hwl2 := (cut_len 32 (r0 :: rs)[i]).1
   have hwl3 := (cut_len 32 (r0 :: rs)[i]).2
   rw [hW] at hwl hwl2 hwl3
   have hrm := hRm _ (List.getElem_mem hir)
   obtain ⟨w0, ws, rfl⟩ : ∃ w0 ws, W9 = w0 :: ws := by cases W9 with | nil => simp at hwl3 | cons a l => exact ⟨a, l, rfl⟩
   have hLc : (w0 :: ws).length = ws.length + 1 := rfl
   refine wz 3 ?_
   refine iz (fun c_35 c_35' => ?_) (fun c_35 c_35' => ?_)
   ·refine aw_seq ?_
    obtain rfl : i = 0 := by omega
    obtain rfl := rd_0 hinv
    have hdr : (cut 32 r0).drop 1 = ws := by rw [show cut 32 r0 = w0 :: ws from hW]; rfl
    refine wz 1 ?_
    refine sq_ev rfl (ev_less (ev_slice (lo := 1) sl134.h jz jz rfl (by simp) (by simp)) (Less.eq (b := strs ws) (by rw [List.take_of_length_le (by simp)]; simp [strs]))) ?_
    refine kz az (rnumbers_pure 1 (by omega) ws (by omega) (fun w hw => by have := hwl w (List.mem_cons_of_mem _ hw); omega)) ?_
    refine wz 8 ?_
    refine sz 46 (fun g9_2 g9_2' => ?_) (fun g9_2 g9_2' => ?_)
    ·have hpn : parseS s = none := top_none hR (topO_num (by rw [hdr]; exact none_of (by simpa using g9_2)))
     refine wz 8 ?_
     exact retQ_res (vs := [.agg _, .raw _]) rfl rfl ⟨resVar_cell rfl rfl ty26.h rfl, resVar_tmp _ _ _, trivial⟩ (Less.trans (b := .tup [plA ply0, B false]) (less_tup ⟨less_ply0, jz, trivial⟩) (Less.eq (ref_no hpn).symm))
    obtain ⟨ns, hns2⟩ := Option.isSome_iff_exists.1 (show (allO (numO 1) ws).isSome = true by simpa using g9_2)
    have hnv : numsV 1 ws = ns := by simp [numsV, hns2]
    rw [hnv]
    refine wz 4 ?_
    refine iz (fun c_50 c_50' => ?_) (fun c_50 c_50' => ?_)
    ·have hpn : parseS s = none := top_none hR (topO_nil (by rw [hdr, hns2]; congr 1; exact List.length_eq_zero_iff.1 (by omega)))
     refine wz 3 ?_
     exact retQ_res (vs := [.agg _, .raw _]) rfl rfl ⟨resVar_cell rfl rfl ty26.h rfl, resVar_tmp _ _ _, trivial⟩ (Less.trans (b := .tup [plA ply0, B false]) (less_tup ⟨less_ply0, jz, trivial⟩) (Less.eq (ref_no hpn).symm))
    obtain ⟨a, l2, rfl⟩ := pos_ints (l := ns) (by omega)
    have htop : topO r0 = some (a, l2) := topO_ok (by rw [hdr]; exact hns2)
    refine aw_skip ?_
    dsimp only [List.append, List.set, List.length, List.take, List.drop, List.cons_append, List.nil_append, List.append_nil, Nat.zero_add, Nat.add_zero]
    refine aw_drawc [] [6, 8] _ mo (by kernel_rfl) (HSub.mask [1] 0 _) ?_
    first | refine dc_ev rfl (ev_mv (v := .sl _ _) jz) ?_ | refine dc_ev rfl (ev_mv (v := .own _ _ _) jz) ?_ | refine dc_ev rfl (ev_mv (v := .raw _) jz) ?_ | refine dc_ev rfl (ev_mv (v := .slx _ _) jz) ?_ | refine dc_ev rfl (ev_mv (v := .msl _ _ _ _) jz) ?_
    refine dc_ev rfl (ev_index_map (k := 0) sl22.h jz jz rfl (by simp)) ?_
    first | refine dc_ev rfl (ev_load jz rfl ty3.h rfl) ?_ | refine dc_ev rfl (ev_load_i jz ty3.h rfl) ?_
    first | refine dc_ev rfl (ev_mv (v := .sl _ _) jz) ?_ | refine dc_ev rfl (ev_mv (v := .own _ _ _) jz) ?_ | refine dc_ev rfl (ev_mv (v := .raw _) jz) ?_ | refine dc_ev rfl (ev_mv (v := .slx _ _) jz) ?_ | refine dc_ev rfl (ev_mv (v := .msl _ _ _ _) jz) ?_
    refine dc_ev rfl (ev_less (ev_slice (lo := 1) sl22.h jz jz rfl (by simp) (by simp)) (Less.eq (b := ints l2) (by rw [List.take_of_length_le (by simp)]; simp [ints]))) ?_
    first | refine dc_ev rfl (ev_fieldAddr fo26_0.h jz) ?_ | refine dc_ev rfl (ev_fieldAddr_i fo26_0.h jz) ?_
    refine dc_eff rfl rfl (eff_store rfl jz jz rfl rfl ty3.h rfl rfl) (by apply HL.sub; repeat' (first | exact HL.nil _ | apply HL.same | apply HL.tok)) ?_
    first | refine dc_ev rfl (ev_fieldAddr fo26_1.h jz) ?_ | refine dc_ev rfl (ev_fieldAddr_i fo26_1.h jz) ?_
    refine dc_eff rfl rfl (eff_store rfl jz jz rfl rfl ty22.h rfl rfl) (by apply HL.sub; repeat' (first | exact HL.nil _ | apply HL.same | apply HL.tok)) ?_
    refine dc_nil ?_
    refine wz 3 ?_
    exact ⟨⟨(1, ⟨a, l2, [], []⟩), by simp only; omega, rd_1 htop (by omega)⟩, by simp only; omega, sb 4 ⟨jz, jz, jz, jz, jz, trivial⟩ (hH := rfl)⟩
   refine aw_seq ?_
   have hi1 : 1 ≤ i := by omega
   have hir2 : i + 1 < rs.length := by omega
   have hrow : (r0 :: rs)[i] = rs[i - 1]'(by omega) := by obtain ⟨u, rfl⟩ : ∃ u, i = u + 1 := ⟨i - 1, by omega⟩; rfl
   refine wz 1 ?_
   refine sq_ev rfl (ev_index_map (k := 0) sl134.h jz jz rfl (by simp)) ?_
   refine wz 3 ?_
   refine sz 64 (fun g12_4 g12_4' => ?_) (fun g12_4 g12_4' => ?_)
   ·refine wz 5 ?_
    refine iz (fun c_59 c_59' => ?_) (fun c_59 c_59' => ?_)
    ·refine aw_seq ?_
     have hw0 : w0 = wFig := by simpa [wFig] using g12_4'
     obtain ⟨b, c, d, rfl⟩ := three (show ws.length = 3 by omega)
     refine wz 1 ?_
     refine sq_ev rfl (ev_less (ev_slice (lo := 2) sl134.h jz jz rfl (by simp) (by simp)) (Less.eq (b := strs [c, d]) (by simp [strs]))) ?_
     refine kz az (rnumbers_pure 1 (by omega) [c, d] (by simp) (fun w hw => by have := hwl w (List.mem_cons_of_mem _ (List.mem_cons_of_mem _ hw)); omega)) ?_
     refine wz 7 ?_
     refine iz (fun c_76 c_76' => ?_) (fun c_76 c_76' => ?_)
     ·have hnn := none_of (show (allO (numO 1) [c, d]).isSome = false by simpa using c_76)
      have hpn : parseS s = none := rd_bad hR hi1 hir2 (by rw [← hrow]; exact row_fig_none hW hw0 hnn)
      refine wz 3 ?_
      exact retQ_res (vs := [.agg _, .raw _]) rfl rfl ⟨resVar_cell rfl rfl ty26.h rfl, resVar_tmp _ _ _, trivial⟩ (Less.trans (b := .tup [plA ply0, B false]) (less_tup ⟨less_ply0, jz, trivial⟩) (Less.eq (ref_no hpn).symm))
     obtain ⟨ns, hns2⟩ := Option.isSome_iff_exists.1 (show (allO (numO 1) [c, d]).isSome = true by simpa using c_76)
     have hnv : numsV 1 [c, d] = ns := by simp [numsV, hns2]
     rw [hnv]
     have hnl := (allO_inv hns2).1
     obtain ⟨m, n, rfl⟩ := two_ints hnl
     refine wz 2 ?_
     refine sq_ev rfl (ev_index_map (k := 1) sl134.h jz jz rfl (by simp)) ?_
     refine wz 2 ?_
     refine iz (fun c_81 c_81' => ?_) (fun c_81 c_81' => ?_)
     ·obtain ⟨sv, hsv⟩ : ∃ sv : Int, sv = 1 := ⟨1, rfl⟩
      refine wz 2 ?_
      refine sq_ev rfl (ev_index_map (k := 1) sl134.h jz jz rfl (by simp)) ?_
      refine wz 2 ?_
      refine iz (fun c_85 c_85' => ?_) (fun c_85 c_85' => ?_)
      ·have hsd : sdR b = 2 := sdR_r (by simpa [wRig] using c_85')
       have eS : ((r.figs ++ [(⟨sdR b, m, n⟩ : Fgr)]).map fgC) = (r.figs.map fgC) ++ [[I 2, I m, I n]] := by rw [List.map_append]; show _ ++ [[I (sdR b), I m, I n]] = _; rw [hsd]
       exfalso
       have h1 : b = wLef := by simpa [wLef] using c_81'
       have h2 : b = wRig := by simpa [wRig] using c_85'
       rw [h1] at h2; revert h2; decide
      have hbr : ¬ b = wRig := by simpa [wRig] using c_85'
      have hsd : sdR b = sv := by rw [hsv]; first | exact sdR_l (by simpa [wLef] using c_81') hbr | exact sdR_e (by simpa [wLef] using c_81') hbr
      have eS : ((r.figs ++ [(⟨sdR b, m, n⟩ : Fgr)]).map fgC) = (r.figs.map fgC) ++ [[I sv, I m, I n]] := by rw [List.map_append]; show _ ++ [[I (sdR b), I m, I n]] = _; rw [hsd]
      subst hsv
      refine aw_skip ?_
      dsimp only [List.append, List.set, List.length, List.take, List.drop, List.cons_append, List.nil_append, List.append_nil, Nat.zero_add, Nat.add_zero]
      refine aw_draw 11 mo (by kernel_rfl) ?_
      refine dz 4 ?_
      refine dr_ev rfl (ev_index_map (k := 0) sl22.h jz jz rfl (by simp)) ?_
      refine dz 2 ?_
      refine dr_ev rfl (ev_index_map (k := 1) sl22.h jz jz rfl (by simp)) ?_
      refine dz 2 ?_
      refine dr_ev rfl (ev_buildSlice (es := [[_, _, _]]) sf23.h rfl rfl rfl rfl) ?_
      refine dr_end ?_
      first | refine sq_append rfl sf23.h Tryz.underlying23 rfl rfl jz (Nat.succ_pos _) (by simp; omega) (by simp; omega) ?_ | refine sq_append rfl sf23.h Tryz.underlying23 rfl rfl (less_slx _ _) (Nat.succ_pos _) (by simp; omega) (by simp; omega) ?_
      refine wz 5 ?_
      exact ⟨⟨(i + 1, { r with figs := r.figs ++ [⟨sdR b, m, n⟩] }), by simp only; omega, rd_fig hinv hi1 hir2 (by rw [← hrow, hW, hw0]) hns2⟩, by simp only; omega, sb 4 ⟨jz, jz, jz, jz, jz, trivial⟩ (hH := (congrArg (fun L => [_, AObj.cells [_, _, AV.own 2 3 L, _], AObj.tok L.length, _]) eS.symm))⟩
     obtain ⟨sv, hsv⟩ : ∃ sv : Int, sv = 3 := ⟨3, rfl⟩
     refine wz 1 ?_
     refine sq_ev rfl (ev_index_map (k := 1) sl134.h jz jz rfl (by simp)) ?_
     refine wz 2 ?_
     refine iz (fun c_85 c_85' => ?_) (fun c_85 c_85' => ?_)
     ·have hsd : sdR b = 2 := sdR_r (by simpa [wRig] using c_85')
      have eS : ((r.figs ++ [(⟨sdR b, m, n⟩ : Fgr)]).map fgC) = (r.figs.map fgC) ++ [[I 2, I m, I n]] := by rw [List.map_append]; show _ ++ [[I (sdR b), I m, I n]] = _; rw [hsd]
      refine vz 1 ?_
      refine sq_nil ?_
      dsimp only [List.append, List.set, List.length, List.take, List.drop, List.cons_append, List.nil_append, List.append_nil, Nat.zero_add, Nat.add_zero]
      refine aw_draw 11 mo (by kernel_rfl) ?_
      refine dz 4 ?_
      refine dr_ev rfl (ev_index_map (k := 0) sl22.h jz jz rfl (by simp)) ?_
      refine dz 2 ?_
      refine dr_ev rfl (ev_index_map (k := 1) sl22.h jz jz rfl (by simp)) ?_
      refine dz 2 ?_
      refine dr_ev rfl (ev_buildSlice (es := [[_, _, _]]) sf23.h rfl rfl rfl rfl) ?_
      refine dr_end ?_
      first | refine sq_append rfl sf23.h Tryz.underlying23 rfl rfl jz (Nat.succ_pos _) (by simp; omega) (by simp; omega) ?_ | refine sq_append rfl sf23.h Tryz.underlying23 rfl rfl (less_slx _ _) (Nat.succ_pos _) (by simp; omega) (by simp; omega) ?_
      refine wz 5 ?_
      exact ⟨⟨(i + 1, { r with figs := r.figs ++ [⟨sdR b, m, n⟩] }), by simp only; omega, rd_fig hinv hi1 hir2 (by rw [← hrow, hW, hw0]) hns2⟩, by simp only; omega, sb 4 ⟨jz, jz, jz, jz, jz, trivial⟩ (hH := (congrArg (fun L => [_, AObj.cells [_, _, AV.own 2 3 L, _], AObj.tok L.length, _]) eS.symm))⟩
     have hbr : ¬ b = wRig := by simpa [wRig] using c_85'
     have hsd : sdR b = sv := by rw [hsv]; first | exact sdR_l (by simpa [wLef] using c_81') hbr | exact sdR_e (by simpa [wLef] using c_81') hbr
     have eS : ((r.figs ++ [(⟨sdR b, m, n⟩ : Fgr)]).map fgC) = (r.figs.map fgC) ++ [[I sv, I m, I n]] := by rw [List.map_append]; show _ ++ [[I (sdR b), I m, I n]] = _; rw [hsd]
     subst hsv
     refine aw_skip ?_
     dsimp only [List.append, List.set, List.length, List.take, List.drop, List.cons_append, List.nil_append, List.append_nil, Nat.zero_add, Nat.add_zero]
     refine aw_draw 11 mo (by kernel_rfl) ?_
     refine dz 4 ?_
     refine dr_ev rfl (ev_index_map (k := 0) sl22.h jz jz rfl (by simp)) ?_
     refine dz 2 ?_
     refine dr_ev rfl (ev_index_map (k := 1) sl22.h jz jz rfl (by simp)) ?_
     refine dz 2 ?_
     refine dr_ev rfl (ev_buildSlice (es := [[_, _, _]]) sf23.h rfl rfl rfl rfl) ?_
     refine dr_end ?_
     first | refine sq_append rfl sf23.h Tryz.underlying23 rfl rfl jz (Nat.succ_pos _) (by simp; omega) (by simp; omega) ?_ | refine sq_append rfl sf23.h Tryz.underlying23 rfl rfl (less_slx _ _) (Nat.succ_pos _) (by simp; omega) (by simp; omega) ?_
     refine wz 5 ?_
     exact ⟨⟨(i + 1, { r with figs := r.figs ++ [⟨sdR b, m, n⟩] }), by simp only; omega, rd_fig hinv hi1 hir2 (by rw [← hrow, hW, hw0]) hns2⟩, by simp only; omega, sb 4 ⟨jz, jz, jz, jz, jz, trivial⟩ (hH := (congrArg (fun L => [_, AObj.cells [_, _, AV.own 2 3 L, _], AObj.tok L.length, _]) eS.symm))⟩
    have hno1 : ¬ (w0 = wFig ∧ ws.length + 1 = 4) := fun q => by omega
    refine wz 1 ?_
    refine sq_ev rfl (ev_index_map (k := 0) sl134.h jz jz rfl (by simp)) ?_
    refine wz 3 ?_
    refine sz 104 (fun g22_4 g22_4' => ?_) (fun g22_4 g22_4' => ?_)
    ·refine wz 5 ?_
     refine iz (fun c_99 c_99' => ?_) (fun c_99 c_99' => ?_)
     ·refine aw_seq ?_
      have hw0 : w0 = wScn := by simpa [wScn] using g22_4'
      obtain ⟨b, c, d, e, rfl⟩ := four (show ws.length = 4 by omega)
      refine wz 1 ?_
      refine sq_ev rfl (ev_index_map (k := 1) sl134.h jz jz rfl (by simp)) ?_
      refine wz 1 ?_
      refine kz az (rnumber_pure 1 (by omega) b (by have := hwl b (by simp); omega)) ?_
      refine wz 6 ?_
      refine sq_ev rfl (ev_index_map (k := 2) sl134.h jz jz rfl (by simp)) ?_
      refine wz 1 ?_
      refine kz az (rword_pure c (by have := hwl c (by simp); omega)) ?_
      refine wz 6 ?_
      refine sq_ev rfl (ev_index_map (k := 3) sl134.h jz jz rfl (by simp)) ?_
      refine wz 1 ?_
      refine kz az (rword_pure d (by have := hwl d (by simp); omega)) ?_
      refine wz 6 ?_
      refine sq_ev rfl (ev_index_map (k := 4) sl134.h jz jz rfl (by simp)) ?_
      refine wz 1 ?_
      refine kz az (rword_pure e (by have := hwl e (by simp); omega)) ?_
      refine wz 8 ?_
      refine sz 139 (fun g27_2 g27_2' => ?_) (fun g27_2 g27_2' => ?_)
      ·have hpn : parseS s = none := rd_bad hR hi1 hir2 (by rw [← hrow]; exact row_scn_none hW hw0 (.inl (numQ_F (by simpa using g27_2))))
       refine wz 15 ?_
       exact retQ_res (vs := [.agg _, .raw _]) rfl rfl ⟨resVar_cell rfl rfl ty26.h rfl, resVar_tmp _ _ _, trivial⟩ (Less.trans (b := .tup [plA ply0, B false]) (less_tup ⟨less_ply0, jz, trivial⟩) (Less.eq (ref_no hpn).symm))
      refine wz 4 ?_
      refine sz 143 (fun g27_6 g27_6' => ?_) (fun g27_6 g27_6' => ?_)
      ·have hpn : parseS s = none := rd_bad hR hi1 hir2 (by rw [← hrow]; exact row_scn_none hW hw0 (.inr (.inl (none_of (by simpa using g27_6)))))
       refine wz 11 ?_
       exact retQ_res (vs := [.agg _, .raw _]) rfl rfl ⟨resVar_cell rfl rfl ty26.h rfl, resVar_tmp _ _ _, trivial⟩ (Less.trans (b := .tup [plA ply0, B false]) (less_tup ⟨less_ply0, jz, trivial⟩) (Less.eq (ref_no hpn).symm))
      refine wz 4 ?_
      refine sz 147 (fun g27_10 g27_10' => ?_) (fun g27_10 g27_10' => ?_)
      ·have hpn : parseS s = none := rd_bad hR hi1 hir2 (by rw [← hrow]; exact row_scn_none hW hw0 (.inr (.inr (.inl (none_of (by simpa using g27_10))))))
       refine wz 7 ?_
       exact retQ_res (vs := [.agg _, .raw _]) rfl rfl ⟨resVar_cell rfl rfl ty26.h rfl, resVar_tmp _ _ _, trivial⟩ (Less.trans (b := .tup [plA ply0, B false]) (less_tup ⟨less_ply0, jz, trivial⟩) (Less.eq (ref_no hpn).symm))
      refine wz 3 ?_
      refine iz (fun c_150 c_150' => ?_) (fun c_150 c_150' => ?_)
      ·have hpn : parseS s = none := rd_bad hR hi1 hir2 (by rw [← hrow]; exact row_scn_none hW hw0 (.inr (.inr (.inr (none_of (by simpa using c_150))))))
       refine wz 3 ?_
       exact retQ_res (vs := [.agg _, .raw _]) rfl rfl ⟨resVar_cell rfl rfl ty26.h rfl, resVar_tmp _ _ _, trivial⟩ (Less.trans (b := .tup [plA ply0, B false]) (less_tup ⟨less_ply0, jz, trivial⟩) (Less.eq (ref_no hpn).symm))
      have hq1 := numQ_T (d := 1) (w := b) (by simpa using g27_2)
      have hq2 := lis_T (w := c) (by simpa using g27_6)
      have hq3 := lis_T (w := d) (by simpa using g27_10)
      have hq4 := lis_T (w := e) (by simpa using c_150)
      have eS : ((r.scs ++ [(⟨lisD c, lisD d, (numQ 1 b).1, lisD e⟩ : Scn)]).map scC) = (r.scs.map scC) ++ [[ints (lisD c), ints (lisD d), I (numQ 1 b).1, ints (lisD e)]] := by rw [List.map_append]; rfl
      refine wz 7 ?_
      refine sq_ev rfl (ev_buildSlice (es := [[_, _, _, _]]) sf24.h rfl rfl rfl rfl) ?_
      first | refine sq_append rfl sf24.h Tryz.underlying24 rfl rfl jz (Nat.succ_pos _) (by simp; omega) (by simp; omega) ?_ | refine sq_append rfl sf24.h Tryz.underlying24 rfl rfl (less_slx _ _) (Nat.succ_pos _) (by simp; omega) (by simp; omega) ?_
      refine wz 5 ?_
      exact ⟨⟨(i + 1, { r with scs := r.scs ++ [⟨lisD c, lisD d, (numQ 1 b).1, lisD e⟩] }), by simp only; omega, rd_scn hinv hi1 hir2 (by rw [← hrow, hW, hw0]) hq1 hq2 hq3 hq4⟩, by simp only; omega, sb 4 ⟨jz, jz, jz, jz, jz, trivial⟩ (hH := (congrArg (fun L => [_, AObj.cells [_, _, _, AV.own 3 4 L], _, AObj.tok L.length]) eS.symm))⟩
     have hno2 : ¬ (w0 = wScn ∧ ws.length + 1 = 5) := fun q => by omega
     refine wz 3 ?_
     exact ⟨⟨(i + 1, r), by simp only; omega, rd_skip hinv hi1 hir2 (by rw [← hrow]; exact row_none hW hno1 hno2)⟩, by simp only; omega, sb 4 ⟨jz, jz, jz, jz, jz, trivial⟩ (hH := rfl)⟩
    have hno2 : ¬ (w0 = wScn ∧ ws.length + 1 = 5) := fun q => g22_4' (by simpa [wScn] using q.1)
    refine wz 9 ?_
    exact ⟨⟨(i + 1, r), by simp only; omega, rd_skip hinv hi1 hir2 (by rw [← hrow]; exact row_none hW hno1 hno2)⟩, by simp only; omega, sb 4 ⟨jz, jz, jz, jz, jz, trivial⟩ (hH := rfl)⟩
   have hno1 : ¬ (w0 = wFig ∧ ws.length + 1 = 4) := fun q => g12_4' (by simpa [wFig] using q.1)
   refine wz 7 ?_
   refine sq_ev rfl (ev_index_map (k := 0) sl134.h jz jz rfl (by simp)) ?_
   refine wz 3 ?_
   refine sz 104 (fun g22_4 g22_4' => ?_) (fun g22_4 g22_4' => ?_)
   ·refine wz 5 ?_
    refine iz (fun c_99 c_99' => ?_) (fun c_99 c_99' => ?_)
    ·refine aw_seq ?_
     have hw0 : w0 = wScn := by simpa [wScn] using g22_4'
     obtain ⟨b, c, d, e, rfl⟩ := four (show ws.length = 4 by omega)
     refine wz 1 ?_
     refine sq_ev rfl (ev_index_map (k := 1) sl134.h jz jz rfl (by simp)) ?_
     refine wz 1 ?_
     refine kz az (rnumber_pure 1 (by omega) b (by have := hwl b (by simp); omega)) ?_
     refine wz 6 ?_
     refine sq_ev rfl (ev_index_map (k := 2) sl134.h jz jz rfl (by simp)) ?_
     refine wz 1 ?_
     refine kz az (rword_pure c (by have := hwl c (by simp); omega)) ?_
     refine wz 6 ?_
     refine sq_ev rfl (ev_index_map (k := 3) sl134.h jz jz rfl (by simp)) ?_
     refine wz 1 ?_
     refine kz az (rword_pure d (by have := hwl d (by simp); omega)) ?_
     refine wz 6 ?_
     refine sq_ev rfl (ev_index_map (k := 4) sl134.h jz jz rfl (by simp)) ?_
     refine wz 1 ?_
     refine kz az (rword_pure e (by have := hwl e (by simp); omega)) ?_
     refine wz 8 ?_
     refine sz 139 (fun g27_2 g27_2' => ?_) (fun g27_2 g27_2' => ?_)
     ·have hpn : parseS s = none := rd_bad hR hi1 hir2 (by rw [← hrow]; exact row_scn_none hW hw0 (.inl (numQ_F (by simpa using g27_2))))
      refine wz 15 ?_
      exact retQ_res (vs := [.agg _, .raw _]) rfl rfl ⟨resVar_cell rfl rfl ty26.h rfl, resVar_tmp _ _ _, trivial⟩ (Less.trans (b := .tup [plA ply0, B false]) (less_tup ⟨less_ply0, jz, trivial⟩) (Less.eq (ref_no hpn).symm))
     refine wz 4 ?_
     refine sz 143 (fun g27_6 g27_6' => ?_) (fun g27_6 g27_6' => ?_)
     ·have hpn : parseS s = none := rd_bad hR hi1 hir2 (by rw [← hrow]; exact row_scn_none hW hw0 (.inr (.inl (none_of (by simpa using g27_6)))))
      refine wz 11 ?_
      exact retQ_res (vs := [.agg _, .raw _]) rfl rfl ⟨resVar_cell rfl rfl ty26.h rfl, resVar_tmp _ _ _, trivial⟩ (Less.trans (b := .tup [plA ply0, B false]) (less_tup ⟨less_ply0, jz, trivial⟩) (Less.eq (ref_no hpn).symm))
     refine wz 4 ?_
     refine sz 147 (fun g27_10 g27_10' => ?_) (fun g27_10 g27_10' => ?_)
     ·have hpn : parseS s = none := rd_bad hR hi1 hir2 (by rw [← hrow]; exact row_scn_none hW hw0 (.inr (.inr (.inl (none_of (by simpa using g27_10))))))
      refine wz 7 ?_
      exact retQ_res (vs := [.agg _, .raw _]) rfl rfl ⟨resVar_cell rfl rfl ty26.h rfl, resVar_tmp _ _ _, trivial⟩ (Less.trans (b := .tup [plA ply0, B false]) (less_tup ⟨less_ply0, jz, trivial⟩) (Less.eq (ref_no hpn).symm))
     refine wz 3 ?_
     refine iz (fun c_150 c_150' => ?_) (fun c_150 c_150' => ?_)
     ·have hpn : parseS s = none := rd_bad hR hi1 hir2 (by rw [← hrow]; exact row_scn_none hW hw0 (.inr (.inr (.inr (none_of (by simpa using c_150))))))
      refine wz 3 ?_
      exact retQ_res (vs := [.agg _, .raw _]) rfl rfl ⟨resVar_cell rfl rfl ty26.h rfl, resVar_tmp _ _ _, trivial⟩ (Less.trans (b := .tup [plA ply0, B false]) (less_tup ⟨less_ply0, jz, trivial⟩) (Less.eq (ref_no hpn).symm))
     have hq1 := numQ_T (d := 1) (w := b) (by simpa using g27_2)
     have hq2 := lis_T (w := c) (by simpa using g27_6)
     have hq3 := lis_T (w := d) (by simpa using g27_10)
     have hq4 := lis_T (w := e) (by simpa using c_150)
     have eS : ((r.scs ++ [(⟨lisD c, lisD d, (numQ 1 b).1, lisD e⟩ : Scn)]).map scC) = (r.scs.map scC) ++ [[ints (lisD c), ints (lisD d), I (numQ 1 b).1, ints (lisD e)]] := by rw [List.map_append]; rfl
     refine wz 7 ?_
     refine sq_ev rfl (ev_buildSlice (es := [[_, _, _, _]]) sf24.h rfl rfl rfl rfl) ?_
     first | refine sq_append rfl sf24.h Tryz.underlying24 rfl rfl jz (Nat.succ_pos _) (by simp; omega) (by simp; omega) ?_ | refine sq_append rfl sf24.h Tryz.underlying24 rfl rfl (less_slx _ _) (Nat.succ_pos _) (by simp; omega) (by simp; omega) ?_
     refine wz 5 ?_
     exact ⟨⟨(i + 1, { r with scs := r.scs ++ [⟨lisD c, lisD d, (numQ 1 b).1, lisD e⟩] }), by simp only; omega, rd_scn hinv hi1 hir2 (by rw [← hrow, hW, hw0]) hq1 hq2 hq3 hq4⟩, by simp only; omega, sb 4 ⟨jz, jz, jz, jz, jz, trivial⟩ (hH := (congrArg (fun L => [_, AObj.cells [_, _, _, AV.own 3 4 L], _, AObj.tok L.length]) eS.symm))⟩
    have hno2 : ¬ (w0 = wScn ∧ ws.length + 1 = 5) := fun q => by omega
    refine wz 3 ?_
    exact ⟨⟨(i + 1, r), by simp only; omega, rd_skip hinv hi1 hir2 (by rw [← hrow]; exact row_none hW hno1 hno2)⟩, by simp only; omega, sb 4 ⟨jz, jz, jz, jz, jz, trivial⟩ (hH := rfl)⟩
   have hno2 : ¬ (w0 = wScn ∧ ws.length + 1 = 5) := fun q => g22_4' (by simpa [wScn] using q.1)
   refine wz 9 ?_
   exact ⟨⟨(i + 1, r), by simp only; omega, rd_skip hinv hi1 hir2 (by rw [← hrow]; exact row_none hW hno1 hno2)⟩, by simp only; omega, sb 4 ⟨jz, jz, jz, jz, jz, trivial⟩ (hH := rfl)⟩
  refine aw_exit ?_
  refine aw_seq ?_
  refine aw_seq ?_
  have hend := rd_end hR hinv (by omega)
  refine wz 1 ?_
  refine sq_ev rfl (ev_call en53.h jz (rprint_pure hsm) ⟨less_rc r, trivial⟩) ?_
  refine wz 2 ?_
  refine iz (fun c_165 c_165' => ?_) (fun c_165 c_165' => ?_)
  ·have hpn : parseS s = none := by rw [hend, if_neg (fun e => c_165' e)]
   refine wz 3 ?_
   exact retQ_res (vs := [.agg _, .raw _]) rfl rfl ⟨resVar_cell rfl rfl ty26.h rfl, resVar_tmp _ _ _, trivial⟩ (Less.trans (b := .tup [plA ply0, B false]) (less_tup ⟨less_ply0, jz, trivial⟩) (Less.eq (ref_no hpn).symm))
  have hpy : parseS s = some r := by rw [hend, if_pos (by simpa using c_165')]
  refine wz 3 ?_
  exact retQ_res (vs := [.agg _, .raw _]) rfl rfl ⟨resVar_cell rfl rfl ty26.h rfl, resVar_tmp _ _ _, trivial⟩ (Less.trans (b := .tup [plA r, B true]) (less_tup ⟨less_rc r, jz, trivial⟩) (Less.eq (ref_yes hpy).symm))
end Go.Proofs.YtfmpabgblbbcdaaGreatDoor
namespace Go.Proofs.YtfmpabgblbbcdaaGreatDoor
open Go Go.Ab Ni St
open Hd hiding sz
theorem same0 : APure Tryz.prog 54 [plA ply0, plA ply0] (B true) := samepl_pure ply0 (by decide) (by decide) (by decide) (fun x hx => by cases hx)
theorem rd_lens {s : List UInt8} {p : Ply} (hs : s.length ≤ 400) (h : parseS s = some p) : p.hts.length ≤ 1000000 ∧ p.figs.length ≤ 1000000 ∧ p.scs.length ≤ 1000000 ∧ ∀ x ∈ p.scs, x.moved.length ≤ 1000000 ∧ x.rest.length ≤ 1000000 ∧ x.taken.length ≤ 1000000 := by
  have sm := parse_sm hs h
  exact ⟨by have := sm.nh; omega, by have := sm.nf; omega, by have := sm.ns; omega, fun x hx => ⟨by have := (sm.ll x hx x.moved (by simp)).1; omega, by have := (sm.ll x hx x.rest (by simp)).1; omega, by have := (sm.ll x hx x.taken (by simp)).1; omega⟩⟩
theorem law11_a {s : List UInt8} (hs : 500 < s.length) : APure Tryz.prog 11 [S s] (B true) := by
  refine ap Tryz.func11 (fun e0 he0 => ?_)
  refine wz 4 ?_
  refine iz (fun c_12 c_12' => ?_) (fun c_12 c_12' => ?_)
  ·refine wz 0 ?_
   refine kz az (known_pure) ?_
   refine wz 1 ?_
   exact rz rfl jz
  exfalso
  omega
theorem law11_b {s : List UInt8} {x : Ply} {b : Bool} (hs : ¬ 500 < s.length) (h4 : 400 < s.length) (k52 : APure Tryz.prog 52 [S s] (.tup [plA ply0, I 3])) (k55 : APure Tryz.prog 55 [S s] (.tup [plA x, B b])) : APure Tryz.prog 11 [S s] (B true) := by
  refine ap Tryz.func11 (fun e0 he0 => ?_)
  refine wz 4 ?_
  refine iz (fun c_12 c_12' => ?_) (fun c_12 c_12' => ?_)
  ·exfalso
   omega
  refine wz 1 ?_
  refine kz az (k52) ?_
  refine wz 7 ?_
  refine kz az (k55) ?_
  refine wz 10 ?_
  refine iz (fun c_26 c_26' => ?_) (fun c_26 c_26' => ?_)
  ·refine wz 10 ?_
   refine sq_yes rfl rfl jz rfl (ev_call en54.h jz (same0) ⟨jz, less_ply0, trivial⟩) ?_
   refine wz 2 ?_
   refine ky az (known_pure) ?_
   refine wz 2 ?_
   exact rz rfl jz
  exfalso
  omega
theorem law11_c {s : List UInt8} (hs : ¬ 500 < s.length) (h4 : ¬ 400 < s.length) (k52 : APure Tryz.prog 52 [S s] (.tup [plA ply0, I 4])) (k55 : APure Tryz.prog 55 [S s] (.tup [plA ply0, B false])) : APure Tryz.prog 11 [S s] (B true) := by
  refine ap Tryz.func11 (fun e0 he0 => ?_)
  refine wz 4 ?_
  refine iz (fun c_12 c_12' => ?_) (fun c_12 c_12' => ?_)
  ·exfalso
   omega
  refine wz 1 ?_
  refine kz az (k52) ?_
  refine wz 7 ?_
  refine kz az (k55) ?_
  refine wz 10 ?_
  refine iz (fun c_26 c_26' => ?_) (fun c_26 c_26' => ?_)
  ·exfalso
   omega
  refine wz 13 ?_
  refine sq_yes rfl rfl jz rfl (ev_call en54.h jz (same0) ⟨jz, less_ply0, trivial⟩) ?_
  refine wz 2 ?_
  refine ky az (known_pure) ?_
  refine wz 2 ?_
  exact rz rfl jz
theorem law11_d {s : List UInt8} {x : Ply} (hs : ¬ 500 < s.length) (h4 : ¬ 400 < s.length) (k52 : APure Tryz.prog 52 [S s] (.tup [plA ply0, I 2])) (k55 : APure Tryz.prog 55 [S s] (.tup [plA x, B true])) (k22 : APure Tryz.prog 22 [plA x] (B false)) : APure Tryz.prog 11 [S s] (B true) := by
  refine ap Tryz.func11 (fun e0 he0 => ?_)
  refine wz 4 ?_
  refine iz (fun c_12 c_12' => ?_) (fun c_12 c_12' => ?_)
  ·exfalso
   omega
  refine wz 1 ?_
  refine kz az (k52) ?_
  refine wz 7 ?_
  refine kz az (k55) ?_
  refine wz 10 ?_
  refine iz (fun c_26 c_26' => ?_) (fun c_26 c_26' => ?_)
  ·exfalso
   omega
  refine wz 4 ?_
  refine kz az (k22) ?_
  refine wz 12 ?_
  refine sq_yes rfl rfl jz rfl (ev_call en54.h jz (same0) ⟨jz, less_ply0, trivial⟩) ?_
  refine wz 2 ?_
  refine ky az (known_pure) ?_
  refine wz 2 ?_
  exact rz rfl jz
theorem law11_e {s : List UInt8} {x : Ply} (hs : ¬ 500 < s.length) (h4 : ¬ 400 < s.length) (k52 : APure Tryz.prog 52 [S s] (.tup [plA x, I 0])) (k55 : APure Tryz.prog 55 [S s] (.tup [plA x, B true])) (k22 : APure Tryz.prog 22 [plA x] (B true)) (k54 : APure Tryz.prog 54 [plA x, plA x] (B true)) (k51 : APure Tryz.prog 51 [plA x] (.tup [S s, I 0])) : APure Tryz.prog 11 [S s] (B true) := by
  refine ap Tryz.func11 (fun e0 he0 => ?_)
  refine wz 4 ?_
  refine iz (fun c_12 c_12' => ?_) (fun c_12 c_12' => ?_)
  ·exfalso
   omega
  refine wz 1 ?_
  refine kz az (k52) ?_
  refine wz 7 ?_
  refine kz az (k55) ?_
  refine wz 10 ?_
  refine iz (fun c_26 c_26' => ?_) (fun c_26 c_26' => ?_)
  ·exfalso
   omega
  refine wz 4 ?_
  refine kz az (k22) ?_
  refine wz 6 ?_
  refine kz az (k51) ?_
  refine wz 10 ?_
  refine ky az (k54) ?_
  refine wz 11 ?_
  refine sz 66 (fun g15_16 g15_16' => ?_) (fun g15_16 g15_16' => ?_)
  ·refine ky az (known_pure) ?_
   refine wz 2 ?_
   exact rz rfl jz
  exfalso
  simp at g15_16
/-- **StemReads.** -/
theorem law11 (s : List UInt8) : APure Tryz.prog 11 [S s] (B true) := by
  by_cases h5 : 500 < s.length
  · exact law11_a h5
  · have k52 := read_pure s
    have k55 := rread_pure s (by omega)
    unfold readAV at k52
    by_cases h4 : 400 < s.length
    · rw [readE_long h4] at k52
      cases hp : parseS s with
      | none => rw [ref_no hp] at k55; exact law11_b h5 h4 k52 k55
      | some b => rw [ref_yes hp] at k55; exact law11_b h5 h4 k52 k55
    · cases hp : parseS s with
      | none => rw [readE_none h4 hp] at k52; rw [ref_no hp] at k55; exact law11_c h5 h4 k52 k55
      | some x =>
        rw [ref_yes hp] at k55
        have L := rd_lens (by omega) hp
        have k22 := rplay_pure x L.1 L.2.1 L.2.2.1 L.2.2.2
        cases hk : plOK x with
        | false => rw [hk] at k22; rw [readE_bad h4 hp hk] at k52; exact law11_d h5 h4 k52 k55 k22
        | true =>
          rw [hk] at k22; rw [readE_ok h4 hp hk] at k52
          have k51 := xprint_ok L.1 L.2.1 L.2.2.1 L.2.2.2 hk
          rw [parseS_text hp] at k51
          exact law11_e h5 h4 k52 k55 k22 (samepl_pure x L.1 L.2.1 L.2.2.1 L.2.2.2) k51
end Go.Proofs.YtfmpabgblbbcdaaGreatDoor
