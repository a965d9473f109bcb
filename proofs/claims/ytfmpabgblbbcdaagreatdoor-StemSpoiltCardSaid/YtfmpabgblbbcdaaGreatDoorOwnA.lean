/-
  A part of the proof: conditions: none beyond each theorem's own.
-/
import Derived.Test.YtfmpabgblbbcdaaGreatDoorLogicA
import Derived.Test.YtfmpabgblbbcdaaGreatDoorLogicC
import Derived.Laws.StructEq
import Derived.Deep.Slices
import Derived.OpenShut
import Derived.Carry
import Derived.Test.YtfmpabgblbbcdaaGreatDoorSpecA
import Derived.Lib.Join
import Derived.Test.YtfmpabgblbbcdaaGreatDoorLogicD
import Derived.Test.YtfmpabgblbbcdaaGreatDoorProg
import Derived.KernelRfl
import Derived.Lib.LaidTab
import Derived.Lib.ItoaNum
import Derived.Test.YtfmpabgblbbcdaaGreatDoorWalkE
import Derived.Test.YtfmpabgblbbcdaaGreatDoorWalkG
import Derived.Laws.IdiomStrings
import Derived.Laws.IdiomCopy
import Derived.Test.YtfmpabgblbbcdaaGreatDoorLogicB
import Derived.Test.YtfmpabgblbbcdaaGreatDoorLogicE
import Derived.Test.YtfmpabgblbbcdaaGreatDoorShelf
import Derived.Test.YtfmpabgblbbcdaaGreatDoorWalkA
import Derived.Test.YtfmpabgblbbcdaaGreatDoorWalkB
import Derived.Test.YtfmpabgblbbcdaaGreatDoorWalkC
import Derived.Test.YtfmpabgblbbcdaaGreatDoorWalkD
import Derived.Test.YtfmpabgblbbcdaaGreatDoorWalkF
import Derived.Test.YtfmpabgblbbcdaaGreatDoorRow
set_option linter.all false
set_option maxRecDepth 100000
set_option maxHeartbeats 8000000
namespace Go.Ab
variable [Tabs]
theorem FW_room (r : Option Nat) (n : Nat) : (FW r).room n := fun _ h => by simp [FW] at h
variable {c : Ctx} {Q : AExit → St → Prop} {s : St}
end Go.Ab
namespace Go.Ab
variable [Tabs]
section ops
variable {P : Program} {r : Option Nat} {H : List AObj} {ρ : Operand → AV}
variable {d : Option Tmp} {t : TypeId} {p : String} {af : Array Edge} {g : Option (Nat × Bool)}
variable {x y z : Operand}
theorem ev_neq_agg {xt yt : TypeId} {xs ys : Array Value} {b : Bool} (hg : P.eqGuardType P.depth xt = false) (he : ∀ w, (Op.equalIn 10000 xt (.agg xs) (.agg ys)).run P w = .ok b w)
    (hx : Less (ρ x) (.raw (.agg xs))) (hy : Less (ρ y) (.raw (.agg ys))) : Ev P r ⟨d, .binOp .neq xt x y yt, t, p, af, g⟩ H ρ (.raw (.bool !b)) :=
  Ev.pure (by intro c h; cases h) fun e ρc _ _ hs => by
    have e1 := rep_raw hx (hs x (by simp [Op.operands]))
    have e2 := rep_raw hy (hs y (by simp [Op.operands]))
    exact ⟨.bool !b, by simp [execOp, e1, e2, run_eqGuard_agg _ _ _ _ _ _ _ hg, run_neq_struct, he], by rw [Rep]⟩
end ops
end Go.Ab
namespace Go.Ab
open Go.ChangeShapes Go.WideShapes
variable [Tabs]
theorem env0_ok {w : World} (h : Tabs.is w) (hb : ∀ b, Tabs.blk b → b < w.heap.size) : EnvOK (env0 w) :=
  ⟨fun b hb => by have hb' : w.heap.size ≤ b := hb
                  have : w.heap[b]? = none := by simpa using hb'
                  simp [env0, this], fun i o h => by simp [env0] at h, fun i j b hi => by simp [env0] at hi, fun i b hi => by simp [env0] at hi, h, fun b hk => ⟨hb b hk, fun i hi => by simp [env0] at hi⟩⟩
section
variable {H : Type} {enc : TypeId × Value → H} {P : Program} {w : World} {base : Nat} {spare : Nat → Bool} {held : Bool}
theorem trodAll_stays (hl : laidOutB P = true) {W W' : World} (hheap : ∀ b, b < W.heap.size → W'.heap[b]? = W.heap[b]?) {sp' : Nat → Bool} :
    ∀ {ts : List TypeId} {vs : List Value} {ds : List (DataW H)} {ps : List MemPlace}, (∀ t ∈ ts, P.readableRec t = true ∧ t < P.types.size) → DataW.TrodAll enc P W base (fun _ => true) true ts vs ds ps → (∀ p ∈ ps, p.block < W.heap.size) → (∀ p ∈ ps, sp' p.block = true) →
      DataW.TrodAll enc P W' base sp' true ts vs ds ps
  | [], _, _, _, _, h, _, _ => by
    obtain ⟨rfl, rfl, rfl⟩ := trodAll_nil h
    exact trodAll_mk0
  | t :: ts, _, _, _, ht, h, hlt, hs => by
    obtain ⟨v, vs1, d, ds1, a, b, rfl, rfl, rfl, h1, h2⟩ := trodAll_cons h
    refine trodAll_cons_mk (WideElems.Trod_stays hl (ht t (by simp)).1 (ht t (by simp)).2 h1 (fun p hp => ?_) (fun p hp => hs p (by simp [hp]))) (trodAll_stays hl hheap (fun u hu => ht u (List.mem_cons_of_mem _ hu)) h2 (fun p hp => hlt p (by simp [hp])) (fun p hp => hs p (by simp [hp])))
    have hb := hheap p.block (hlt p (by simp [hp]))
    cases p with
    | cell b o => exact cell?_of_heap hb
    | map b => exact hb
/-- **What a law's row asks of a call that returns true and leaves what it met.** -/
theorem post_true {f : Func} {s : ChangeSpec} {W W' : World} {args : Array Value} {ds gs : List (DataW H)} {before : List MemPlace} {tb : TypeId} (hl : laidOutB P = true) (hread : ∀ t ∈ f.params.toList, P.readableRec t = true ∧ t < P.types.size)
    (hres : f.resultTypes = #[tb]) (htb : P.underlying tb = some .bool) (hvars : s.vars = []) (hspec : (s.fn H ds).results = [.lit (.bool true)] ∧ (s.fn H ds).args = ds ∧ (s.fn H ds).vars = [])
    (hW : DataW.Whole enc P f.params.toList s.vars false W args.toList ds gs before) (hheap : ∀ b, b < W.heap.size → W'.heap[b]? = W.heap[b]?) (hst : Still W W') :
    s.post enc P f false true false false W args (.bool true) W' := by
  have hlt := hW.lt
  have hW0 := hW
  obtain ⟨p, q, h1, h2, rfl, _, _⟩ := hW
  rw [hvars] at h2
  obtain ⟨rfl, rfl⟩ := trodVars_none h2
  simp only [List.append_nil] at hlt
  obtain ⟨e1, e2, e3⟩ := hspec
  refine ⟨ds, [], p ++ [], [], p, [], hW0, ?_, ?_, ?_, ?_, fun h => by cases h⟩
  · rw [List.append_nil, e1, hres]
    exact trodAll_cons_mk (RowKit.shut_bool htb _) trodAll_mk0
  · rw [List.append_nil, e2]
    exact trodAll_stays hl hheap hread h1 hlt (fun p hp => by simpa using hlt p hp)
  · rw [List.append_nil, e3, hvars]; rfl
  · refine ⟨hst.1, hst.2, fun i hi => ?_⟩
    rw [hheap i hi]
    split <;> simp_all
theorem APure.law {f : FuncId} {args : List AV} {W : World} {vs : Array Value} (hc : APure P f args (.raw (.bool true))) (ht : Tabs.is W) (hb : ∀ b, Tabs.blk b → b < W.heap.size) (hr : RepL (env0 W) args vs.toList) :
    Calls P f vs W fun x W' => x = .returned (.bool true) ∧ (∀ b, b < W.heap.size → W'.heap[b]? = W.heap[b]?) ∧ Still W W' := by
  refine ((hc (env0 W) vs (env0_ok ht hb) hr).calls (fun k => FW_room none k)).mono ?_
  rintro x w' ⟨u, e', rfl, rfl, hx, hu⟩
  rw [Rep] at hu; subst hu
  exact ⟨rfl, hx.heap, hx.still⟩
end
end Go.Ab
namespace Hd
open Go Go.Ab Ni
def wReg : List UInt8 := [114, 101, 103, 105, 115, 116, 101, 114]
def wMea : List UInt8 := [109, 101, 97, 115, 117, 114, 101, 115]
def wHid : List UInt8 := [104, 105, 100, 101]
def wAlo : List UInt8 := [97, 108, 111, 110, 103]
def wAcr : List UInt8 := [97, 99, 114, 111, 115, 115]
def kdW (k : Int) : List UInt8 := if k = 1 then wAlo else wAcr
def lnReg (r : Rg) : List UInt8 := Lib.join (wReg :: wordsOf (l6 r)) [32]
def lnMea (r : Rg) : List UInt8 := Lib.join (wMea :: r.kinds.map kdW) [32]
def lnHid (h : List Int) : List UInt8 := Lib.join (wHid :: wordsOf h) [32]
def linesR (r : Rg) : List (List UInt8) := lnReg r :: lnMea r :: r.hides.map lnHid
def sealR (ls : List (List UInt8)) : List UInt8 := outT ls ls.length ++ [101, 110, 100, 32] ++ digs3 (ctT ls ls.length % 199) ++ [10]
end Hd
namespace Hd
open Go Go.Ab Ni
theorem cut_no {c : UInt8} : ∀ {l : List UInt8}, c ∉ l → cut c l = [l]
  | [], _ => rfl
  | b :: l, h => by
    rw [cut, if_neg (fun e => h (by simp [e])), cut_no (fun k => h (List.mem_cons_of_mem _ k))]
theorem cut_app {c : UInt8} : ∀ {w r : List UInt8}, c ∉ w → cut c (w ++ c :: r) = w :: cut c r
  | [], r, _ => by simp [cut]
  | b :: w, r, h => by
    rw [List.cons_append, cut, if_neg (fun e => h (by simp [e])), cut_app (fun k => h (List.mem_cons_of_mem _ k))]
theorem cut_pre {c : UInt8} : ∀ {ws : List (List UInt8)} {w : List UInt8}, c ∉ w → (∀ x ∈ ws, c ∉ x) → cut c (w ++ (ws.map fun x => c :: x).flatten) = w :: ws
  | [], w, h, _ => by simpa using cut_no h
  | x :: ws, w, h, k => by
    have e : w ++ ((x :: ws).map fun x => c :: x).flatten = w ++ c :: (x ++ (ws.map fun x => c :: x).flatten) := by simp
    rw [e, cut_app h, cut_pre (k x (by simp)) (fun y hy => k y (List.mem_cons_of_mem _ hy))]
theorem cut_out {c : UInt8} : ∀ {ls : List (List UInt8)} {r : List UInt8}, (∀ l ∈ ls, c ∉ l) → cut c ((ls.map fun l => l ++ [c]).flatten ++ r) = ls ++ cut c r
  | [], r, _ => by simp
  | l :: ls, r, h => by
    have e : ((l :: ls).map fun l => l ++ [c]).flatten ++ r = l ++ c :: ((ls.map fun l => l ++ [c]).flatten ++ r) := by simp
    rw [e, cut_app (h l (by simp)), cut_out (fun y hy => h y (List.mem_cons_of_mem _ hy))]; rfl
theorem itoa_fin : ∀ n : Fin 1400, numO 4 (Lib.itoa (n.val : Int)) = some (n.val : Int) ∧ (Lib.itoa (n.val : Int)).length ≤ 4 := by decide +kernel
theorem itoa_four {n : Int} (h : 0 ≤ n ∧ n ≤ 1399) : numO 4 (Lib.itoa n) = some n ∧ (Lib.itoa n).length ≤ 4 := by
  have := itoa_fin ⟨n.toNat, by omega⟩
  rwa [show ((⟨n.toNat, by omega⟩ : Fin 1400).val : Int) = n from (by simp; omega)] at this
theorem numO_not {d : Nat} {w : List UInt8} {n : Int} (h : numO d w = some n) {c : UInt8} (hc : isD c = false) : c ∉ w := fun k => by
  have := List.all_eq_true.1 (numO_facts h).1 c k
  rw [hc] at this; cases this
theorem nums_read : ∀ {l : List Int}, (∀ n ∈ l, Sayd n) → allO (numO 4) (wordsOf l) = some l
  | [], _ => rfl
  | n :: l, h => by
    unfold wordsOf
    rw [List.map_cons, allO, show numO 4 (Lib.itoa n) = some n from h n (by simp), show allO (numO 4) (l.map Lib.itoa) = some l from nums_read fun m hm => h m (List.mem_cons_of_mem _ hm)]
theorem words_not {l : List Int} (h : ∀ n ∈ l, Sayd n) {c : UInt8} (hc : isD c = false) : ∀ w ∈ wordsOf l, c ∉ w := fun w hw => by
  obtain ⟨n, hn, rfl⟩ := List.mem_map.1 hw
  exact numO_not (h n hn) hc
theorem kinds_not {l : List Int} {c : UInt8} (h1 : c ∉ wAlo) (h2 : c ∉ wAcr) : ∀ w ∈ l.map kdW, c ∉ w := fun w hw => by
  obtain ⟨k, _, rfl⟩ := List.mem_map.1 hw
  unfold kdW; split <;> assumption
theorem mem_pre {c : UInt8} (hc : c ≠ 32) {ws : List (List UInt8)} {w : List UInt8} (h : c ∉ w) (k : ∀ x ∈ ws, c ∉ x) : c ∉ w ++ preL ws := fun hm => by
  rcases List.mem_append.1 hm with hm | hm
  · exact h hm
  · obtain ⟨y, hy, hm⟩ := List.mem_flatten.1 hm
    obtain ⟨x, hx, rfl⟩ := List.mem_map.1 hy
    rcases List.mem_cons.1 hm with hm | hm
    · exact hc hm
    · exact k x hx hm
theorem lines_not {r : Rg} (td : TdR r) : ∀ l ∈ linesR r, (10 : UInt8) ∉ l := fun l hl => by
  unfold linesR at hl
  rcases List.mem_cons.1 hl with rfl | hl
  · unfold lnReg; rw [join_eq]; exact mem_pre (by decide) (by decide) (words_not td.head (by decide))
  · rcases List.mem_cons.1 hl with rfl | hl
    · unfold lnMea; rw [join_eq]; exact mem_pre (by decide) (by decide) (kinds_not (by decide) (by decide))
    · obtain ⟨h, hh, rfl⟩ := List.mem_map.1 hl
      unfold lnHid; rw [join_eq]; exact mem_pre (by decide) (by decide) (words_not (td.hide h hh) (by decide))
def endL (c : Int) : List UInt8 := [101, 110, 100, 32] ++ digs3 c
theorem itoa_not {n : Int} (h : 0 ≤ n ∧ n ≤ 1399) {c : UInt8} (hc : isD c = false) : c ∉ Lib.itoa n := numO_not (itoa_four h).1 hc
theorem end_not {c : Int} (h : 0 ≤ c ∧ c ≤ 999) : (10 : UInt8) ∉ endL c := by
  have a1 := itoa_not (n := c / 100) (by omega) (c := 10) (by decide)
  have a2 := itoa_not (n := c / 10 % 10) (by omega) (c := 10) (by decide)
  have a3 := itoa_not (n := c % 10) (by omega) (c := 10) (by decide)
  unfold endL digs3
  simp [a1, a2, a3]
theorem seal_cut {ls : List (List UInt8)} (h : ∀ l ∈ ls, (10 : UInt8) ∉ l) : cut 10 (sealR ls) = ls ++ [endL (ctT ls ls.length % 199), []] := by
  have e : sealR ls = (ls.map fun l => l ++ [10]).flatten ++ (endL (ctT ls ls.length % 199) ++ 10 :: []) := by
    unfold sealR outT endL; rw [List.take_length]; simp
  rw [e, cut_out h, cut_app (end_not (by omega))]; rfl
theorem outlen {ls : List (List UInt8)} {B : Nat} (h : ∀ l ∈ ls, l.length ≤ B) : ((ls.map fun l => l ++ [10]).flatten).length ≤ (B + 1) * ls.length := by
  induction ls with
  | nil => simp
  | cons w ws ih =>
    have h1 := h w (by simp)
    have h2 := ih (fun x hx => h x (List.mem_cons_of_mem _ hx))
    simp only [List.map_cons, List.flatten_cons, List.length_append, List.length_cons, Nat.mul_add]
    simp only [List.length_nil]
    omega
theorem cut_set {n c : UInt8} (hc : c ≠ n) : ∀ (t : List UInt8) (k : Nat) (h : k < t.length), t[k] ≠ n → ∃ i j x, (cut n t)[i]? = some x ∧ x[j]? = some t[k] ∧ cut n (t.set k c) = (cut n t).set i (x.set j c)
  | [], k, h, _ => by simp at h
  | b :: l, 0, h, hb => by
    have hb : b ≠ n := hb
    cases hy : cut n l with
    | nil => exact absurd hy (cut_ne n l)
    | cons y ys =>
      refine ⟨0, 0, b :: y, ?_, ?_, ?_⟩
      · rw [cut, if_neg hb, hy]; rfl
      · rfl
      · rw [List.set_cons_zero, cut, if_neg hc, cut, if_neg hb, hy]; rfl
  | b :: l, k + 1, h, hb => by
    obtain ⟨i, j, x, h1, h2, h3⟩ := cut_set hc l k (by simpa using h) (by simpa using hb)
    rw [List.set_cons_succ]
    by_cases e : b = n
    · refine ⟨i + 1, j, x, ?_, by simpa using h2, ?_⟩
      · rw [cut, if_pos e]; simpa using h1
      · rw [cut, if_pos e, cut, if_pos e, h3]; rfl
    · cases hy : cut n l with
      | nil => exact absurd hy (cut_ne n l)
      | cons y ys =>
        rw [hy] at h1 h3
        rcases i with _ | i
        · simp only [List.getElem?_cons_zero, Option.some.injEq] at h1
          subst h1
          refine ⟨0, j + 1, b :: y, ?_, by simpa using h2, ?_⟩
          · rw [cut, if_neg e, hy]; rfl
          · rw [cut, if_neg e, cut, if_neg e, h3, hy]; rfl
        · refine ⟨i + 1, j, x, ?_, by simpa using h2, ?_⟩
          · rw [cut, if_neg e, hy]; simpa using h1
          · rw [cut, if_neg e, cut, if_neg e, h3, hy]; rfl
theorem csT_s (m : Int) (l : List UInt8) (k : Nat) : csT m l (k + 1) = csT m l k + ((l.getD k 0).toNat : Int) * ((k : Int) + 1) * m := by simp [csT, List.range_succ]
theorem getD_setj {α : Type} {l : List α} {j : Nat} (hj : j < l.length) (c d : α) (k : Nat) : (l.set j c).getD k d = if k = j then c else l.getD k d := by
  simp only [List.getD_eq_getElem?_getD, List.getElem?_set]
  by_cases e : k = j
  · subst e; simp [hj]
  · rw [if_neg (fun h => e h.symm), if_neg e]
theorem csT_set {m : Int} {l : List UInt8} {j : Nat} {c : UInt8} (hj : j < l.length) : ∀ k, csT m (l.set j c) k = csT m l k + (if j < k then ((c.toNat : Int) - (l.getD j 0).toNat) * ((j : Int) + 1) * m else 0)
  | 0 => by simp [csT]
  | k + 1 => by
    rw [csT_s, csT_s, csT_set hj k, getD_setj hj]
    by_cases e : k = j
    · subst e
      rw [if_pos rfl, if_neg (by omega), if_pos (by omega), Int.sub_mul, Int.sub_mul]; omega
    · rw [if_neg e]
      by_cases h : j < k
      · rw [if_pos h, if_pos (by omega)]; omega
      · rw [if_neg h, if_neg (by omega)]; omega
theorem csL_set {m : Int} {l : List UInt8} {j : Nat} {c : UInt8} (hj : j < l.length) : csL m (l.set j c) = csL m l + ((c.toNat : Int) - (l.getD j 0).toNat) * ((j : Int) + 1) * m := by
  unfold csL; rw [List.length_set, csT_set hj, if_pos hj]
theorem ctT_s (ls : List (List UInt8)) (i : Nat) : ctT ls (i + 1) = ctT ls i + csL ((i : Int) + 1) (ls.getD i []) := by simp [ctT, List.range_succ]
theorem ctT_set {ls : List (List UInt8)} {i : Nat} {x : List UInt8} (hi : i < ls.length) : ∀ n, ctT (ls.set i x) n = ctT ls n + (if i < n then csL ((i : Int) + 1) x - csL ((i : Int) + 1) (ls.getD i []) else 0)
  | 0 => by simp [ctT]
  | n + 1 => by
    rw [ctT_s, ctT_s, ctT_set hi n, getD_setj hi]
    by_cases e : n = i
    · subst e
      rw [if_pos rfl, if_neg (by omega), if_pos (by omega)]; omega
    · rw [if_neg e]
      by_cases h : i < n
      · rw [if_pos h, if_pos (by omega)]; omega
      · rw [if_neg h, if_neg (by omega)]; omega
end Hd
namespace St
open Go Go.Ab Ni
open Hd (numO allO allO_ok allO_inv allO_bad allO_mem wordsOf preL join_eq cut_no cut_app cut_pre cut_out cut_ne cut_set csT_s csT_set csL_set ctT_s ctT_set getD_setj numO_facts numO_not numO_word numO_val prelen outlen getD_at endL end_not)
theorem sideO_W {s : Int} (h : 1 ≤ s ∧ s ≤ 3) : sideO (sideW s) = some s := by
  obtain rfl | rfl | rfl : s = 1 ∨ s = 2 ∨ s = 3 := by omega
  all_goals decide
theorem nums_read : ∀ {l : List Int}, (∀ n ∈ l, Dg n) → allO (numO 1) (wordsOf l) = some l
  | [], _ => rfl
  | n :: l, h => by
    unfold wordsOf
    rw [List.map_cons, allO, (dg_num (h n (by simp))).1, show allO (numO 1) (l.map Lib.itoa) = some l from nums_read fun m hm => h m (List.mem_cons_of_mem _ hm)]
theorem words_not {l : List Int} (h : ∀ n ∈ l, Dg n) {c : UInt8} (hc : isD c = false) : ∀ w ∈ wordsOf l, c ∉ w := fun w hw => by
  obtain ⟨n, hn, rfl⟩ := List.mem_map.1 hw
  exact numO_not (dg_num (h n hn)).1 hc
theorem listW_cut {l : List Int} (h : ∀ n ∈ l, Dg n) (hne : l ≠ []) : cut 44 (listW l) = wordsOf l := by
  cases l with
  | nil => exact absurd rfl hne
  | cons n l =>
    unfold listW; rw [if_neg hne]
    unfold wordsOf; rw [List.map_cons, joinc_eq]
    exact cut_pre (numO_not (dg_num (h n (by simp))).1 (by decide)) (words_not (fun m hm => h m (List.mem_cons_of_mem _ hm)) (by decide))
theorem mem_join {c : UInt8} {s : UInt8} (hc : c ≠ s) {ws : List (List UInt8)} {w : List UInt8} (h : c ∉ w) (k : ∀ x ∈ ws, c ∉ x) : c ∉ w ++ (ws.map fun x => s :: x).flatten := fun hm => by
  rcases List.mem_append.1 hm with hm | hm
  · exact h hm
  · obtain ⟨y, hy, hm⟩ := List.mem_flatten.1 hm
    obtain ⟨x, hx, rfl⟩ := List.mem_map.1 hy
    rcases List.mem_cons.1 hm with hm | hm
    · exact hc hm
    · exact k x hx hm
theorem listW_not {l : List Int} (h : ∀ n ∈ l, Dg n) {c : UInt8} (hc : isD c = false) (h45 : c ≠ 45) (h44 : c ≠ 44) : c ∉ listW l := by
  cases l with
  | nil => unfold listW; simpa using h45
  | cons n l =>
    unfold listW; rw [if_neg (by simp)]
    unfold wordsOf; rw [List.map_cons, joinc_eq]
    exact mem_join h44 (numO_not (dg_num (h n (by simp))).1 hc) (words_not (fun m hm => h m (List.mem_cons_of_mem _ hm)) hc)
theorem listW_ne {l : List Int} (h : ∀ n ∈ l, Dg n) (hne : l ≠ []) : listW l ≠ [45] := fun e => by
  have hc := listW_cut h hne
  rw [e] at hc
  have e2 : cut 44 [45] = [[45]] := by decide
  rw [e2] at hc
  cases l with
  | nil => exact absurd rfl hne
  | cons n l =>
    unfold wordsOf at hc
    simp only [List.map_cons, List.cons.injEq] at hc
    have := (numO_facts (dg_num (h n (by simp))).1).1
    rw [← hc.1] at this
    revert this; decide
theorem list_read {l : List Int} (h : ∀ n ∈ l, Dg n) : listO (listW l) = some l := by
  by_cases hne : l = []
  · subst hne; decide
  · unfold listO; rw [if_neg (listW_ne h hne), listW_cut h hne, nums_read h]
theorem sideW_not (s : Int) {c : UInt8} (h1 : c ∉ wLef) (h2 : c ∉ wRig) (h3 : c ∉ wEit) : c ∉ sideW s := by
  unfold sideW; split; exact h1; split; exact h2; exact h3
theorem fig_ws (f : Fgr) (hf : Dg f.rank ∧ Dg f.hands) {c : UInt8} (hc : isD c = false) (hs : c ∉ sideW f.side) : ∀ w ∈ sideW f.side :: wordsOf [f.rank, f.hands], c ∉ w := fun w hw => by
  rcases List.mem_cons.1 hw with rfl | hw
  · exact hs
  · exact words_not (fun n hn => by rcases List.mem_cons.1 hn with rfl | hn; exact hf.1; (obtain rfl := List.mem_singleton.1 hn); exact hf.2) hc w hw
theorem scn_ws {x : Scn} (h : Dg x.knocks ∧ (∀ n ∈ x.moved, Dg n) ∧ (∀ n ∈ x.rest, Dg n) ∧ ∀ n ∈ x.taken, Dg n) {c : UInt8} (hc : isD c = false) (h45 : c ≠ 45) (h44 : c ≠ 44) : ∀ w ∈ Lib.itoa x.knocks :: [listW x.moved, listW x.rest, listW x.taken], c ∉ w := fun w hw => by
  simp only [List.mem_cons, List.not_mem_nil, or_false] at hw
  rcases hw with rfl | rfl | rfl | rfl
  · exact numO_not (dg_num h.1).1 hc
  · exact listW_not h.2.1 hc h45 h44
  · exact listW_not h.2.2.1 hc h45 h44
  · exact listW_not h.2.2.2 hc h45 h44
theorem lines_not {p : Ply} (td : TdP p) : ∀ l ∈ linesS p, (10 : UInt8) ∉ l := fun l hl => by
  unfold linesS at hl
  rcases List.mem_cons.1 hl with rfl | hl
  · unfold lnHead; rw [join_eq]; exact mem_join (by decide) (by decide) (words_not td.head (by decide))
  · rcases List.mem_append.1 hl with hl | hl
    · obtain ⟨f, hf, rfl⟩ := List.mem_map.1 hl
      unfold lnFig; rw [join_eq]
      exact mem_join (by decide) (by decide) (fig_ws f (td.fig f hf).2 (by decide) (sideW_not _ (by decide) (by decide) (by decide)))
    · obtain ⟨x, hx, rfl⟩ := List.mem_map.1 hl
      unfold lnScn; rw [join_eq]
      exact mem_join (by decide) (by decide) (scn_ws (td.scn x hx) (by decide) (by decide) (by decide))
theorem head_cut {p : Ply} (td : TdP p) : cut 32 (lnHead p) = wStem :: wordsOf (p.left :: p.hts) := by
  unfold lnHead; rw [join_eq]; exact cut_pre (by decide) (words_not td.head (by decide))
theorem fig_cut {f : Fgr} (hf : Dg f.rank ∧ Dg f.hands) : cut 32 (lnFig f) = wFig :: sideW f.side :: wordsOf [f.rank, f.hands] := by
  unfold lnFig; rw [join_eq]; exact cut_pre (by decide) (fig_ws f hf (by decide) (sideW_not _ (by decide) (by decide) (by decide)))
theorem scn_cut {x : Scn} (h : Dg x.knocks ∧ (∀ n ∈ x.moved, Dg n) ∧ (∀ n ∈ x.rest, Dg n) ∧ ∀ n ∈ x.taken, Dg n) : cut 32 (lnScn x) = wScn :: Lib.itoa x.knocks :: [listW x.moved, listW x.rest, listW x.taken] := by
  unfold lnScn; rw [join_eq]; exact cut_pre (by decide) (scn_ws h (by decide) (by decide) (by decide))
theorem fig_row {f : Fgr} (hf : (1 ≤ f.side ∧ f.side ≤ 3) ∧ Dg f.rank ∧ Dg f.hands) : rowQ (lnFig f) = some (.fig f) := by
  unfold rowQ
  rw [fig_cut hf.2]
  show (if wFig = wFig then figO (sideW f.side) (Lib.itoa f.rank) (Lib.itoa f.hands) else none) = _
  rw [if_pos rfl]
  unfold figO
  rw [sideO_W hf.1, show [Lib.itoa f.rank, Lib.itoa f.hands] = wordsOf [f.rank, f.hands] from rfl, nums_read (fun n hn => by rcases List.mem_cons.1 hn with rfl | hn; exact hf.2.1; (obtain rfl := List.mem_singleton.1 hn); exact hf.2.2)]
theorem scn_row {x : Scn} (h : Dg x.knocks ∧ (∀ n ∈ x.moved, Dg n) ∧ (∀ n ∈ x.rest, Dg n) ∧ ∀ n ∈ x.taken, Dg n) : rowQ (lnScn x) = some (.scn x) := by
  unfold rowQ
  rw [scn_cut h]
  show (if wScn = wScn then scnO (Lib.itoa x.knocks) (listW x.moved) (listW x.rest) (listW x.taken) else none) = _
  rw [if_pos rfl]
  unfold scnO
  rw [(dg_num h.1).1, list_read h.2.1, list_read h.2.2.1, list_read h.2.2.2]
theorem allO_map {α β γ : Type} {f : α → Option β} {g : γ → α} {k : γ → β} : ∀ {l : List γ}, (∀ x ∈ l, f (g x) = some (k x)) → allO f (l.map g) = some (l.map k)
  | [], _ => rfl
  | x :: l, h => by rw [List.map_cons, allO, h x (by simp), allO_map fun y hy => h y (List.mem_cons_of_mem _ hy), List.map_cons]
theorem allO_append {α β : Type} {f : α → Option β} : ∀ {a b : List α} {x y : List β}, allO f a = some x → allO f b = some y → allO f (a ++ b) = some (x ++ y)
  | [], b, x, y, h1, h2 => by unfold allO at h1; cases h1; simpa using h2
  | w :: a, b, x, y, h1, h2 => by
    unfold allO at h1
    split at h1
    · rename_i n l hn hl
      cases h1
      rw [List.cons_append, allO, hn, allO_append hl h2]; rfl
    · cases h1
theorem figs_fig (l : List Fgr) : figsOf (l.map .fig) = l := by induction l with
  | nil => rfl
  | cons a l ih => exact congrArg (a :: ·) ih
theorem figs_scn (l : List Scn) : figsOf (l.map .scn) = [] := by induction l with
  | nil => rfl
  | cons a l ih => exact ih
theorem scs_fig (l : List Fgr) : scsOf (l.map .fig) = [] := by induction l with
  | nil => rfl
  | cons a l ih => exact ih
theorem scs_scn (l : List Scn) : scsOf (l.map .scn) = l := by induction l with
  | nil => rfl
  | cons a l ih => exact congrArg (a :: ·) ih
theorem seal_cut {ls : List (List UInt8)} (h : ∀ l ∈ ls, (10 : UInt8) ∉ l) : cut 10 (sealS ls) = ls ++ [endL (ctT ls ls.length % 193), []] := by
  have e : sealS ls = (ls.map fun l => l ++ [10]).flatten ++ (endL (ctT ls ls.length % 193) ++ 10 :: []) := by
    unfold sealS outT endL; rw [List.take_length]; simp
  rw [e, cut_out h, cut_app (end_not (by omega))]; rfl
theorem rows_text {p : Ply} (td : TdP p) : rowsS (textS p) = some p := by
  have hc : cut 10 (textS p) = lnHead p :: ((p.figs.map lnFig ++ p.scs.map lnScn) ++ [endL (ctT (linesS p) (linesS p).length % 193), []]) := by
    unfold textS; rw [seal_cut (lines_not td)]; rfl
  unfold rowsS
  rw [hc]
  simp only
  have h1 : topO (lnHead p) = some (p.left, p.hts) := by unfold topO; rw [head_cut td, List.drop_succ_cons, List.drop_zero, nums_read td.head]
  have h2 : allO rowQ (p.figs.map lnFig ++ p.scs.map lnScn) = some (p.figs.map .fig ++ p.scs.map .scn) := allO_append (allO_map fun f hf => fig_row (td.fig f hf)) (allO_map fun x hx => scn_row (td.scn x hx))
  rw [if_pos (by simp; omega), List.length_append, show ([endL (ctT (linesS p) (linesS p).length % 193), ([] : List UInt8)]).length = 2 from rfl, Nat.add_sub_cancel, List.take_left' rfl, h1, h2]
  simp only [figsOf_app, scsOf_app, figs_fig, figs_scn, scs_fig, scs_scn, List.append_nil, List.nil_append]
/-- **A sheet is read as its play.** -/
theorem parse_text {p : Ply} (td : TdP p) : parseS (textS p) = some p := by
  unfold parseS; rw [rows_text td]; simp
theorem rows_td {s : List UInt8} {p : Ply} (h : rowsS s = some p) : TdP p := by
  unfold rowsS at h
  split at h
  · split at h
    · split at h
      · rename_i hd q h1 h2
        cases h
        refine td_of (head_dg h1) fun a ha => ?_
        obtain ⟨w, _, hw⟩ := allO_mem h2 ha
        exact words_td hw
      · cases h
    · cases h
  · cases h
theorem parse_iff {s : List UInt8} {p : Ply} : parseS s = some p ↔ TdP p ∧ textS p = s := by
  constructor
  · intro h
    refine ⟨?_, parseS_text h⟩
    unfold parseS at h; split at h
    · rename_i q hq; split at h
      · cases h; exact rows_td hq
      · cases h
    · cases h
  · rintro ⟨h1, rfl⟩; exact parse_text h1
theorem text_len {p : Ply} (h : plOK p = true) : (textS p).length ≤ 400 := by
  have B := plOK_B h
  have nf := B.nf; have ns := B.ns
  obtain ⟨_, h1, h2, h3⟩ := ok_lines h
  have e : textS p = lnHead p ++ 10 :: (((p.figs.map lnFig).map fun l => l ++ [10]).flatten ++ (((p.scs.map lnScn).map fun l => l ++ [10]).flatten ++ ([101, 110, 100, 32] ++ (digs3 (ctT (linesS p) (linesS p).length % 193) ++ [10])))) := by
    unfold textS sealS outT; rw [List.take_length]; simp [linesS]
  have h4 := outlen h2
  have h5 := outlen h3
  rw [List.length_map] at h4 h5
  have h6 : (digs3 (ctT (linesS p) (linesS p).length % 193)).length ≤ 3 := by
    unfold digs3; simp only [List.length_append]
    have a1 := (dg_num (n := ctT (linesS p) (linesS p).length % 193 / 100) (by unfold Dg; omega)).2
    have a2 := (dg_num (n := ctT (linesS p) (linesS p).length % 193 / 10 % 10) (by unfold Dg; omega)).2
    have a3 := (dg_num (n := ctT (linesS p) (linesS p).length % 193 % 10) (by unfold Dg; omega)).2
    omega
  rw [e]
  generalize (((p.figs.map lnFig).map fun l => l ++ [10]).flatten) = F at h4 ⊢
  generalize (((p.scs.map lnScn).map fun l => l ++ [10]).flatten) = G at h5 ⊢
  simp only [List.length_append, List.length_cons, List.length_nil]
  omega
theorem digs_val : ∀ c : Fin 193, valN (digs3 (c.val : Int)) = (c.val : Int) := by decide +kernel
theorem endL_inj {a b : Int} (ha : 0 ≤ a ∧ a < 193) (hb : 0 ≤ b ∧ b < 193) (h : endL a = endL b) : a = b := by
  have h := List.append_cancel_left h
  have h1 := digs_val ⟨a.toNat, by omega⟩
  have h2 := digs_val ⟨b.toNat, by omega⟩
  rw [show ((⟨a.toNat, by omega⟩ : Fin 193).val : Int) = a from (by simp; omega)] at h1
  rw [show ((⟨b.toNat, by omega⟩ : Fin 193).val : Int) = b from (by simp; omega)] at h2
  rw [← h1, ← h2, h]
theorem no193 : ∀ a : Fin 10, ∀ b : Fin 45, ∀ d : Fin 12, a.val ≠ 0 → (a.val * (b.val + 1) * (d.val + 1)) % 193 ≠ 0 := by decide +kernel
theorem not193 {D : Int} {j i : Nat} (hD : D ≠ 0) (h1 : -9 ≤ D) (h2 : D ≤ 9) (hj : j < 45) (hi : i < 12) : ¬ (D * ((j : Int) + 1) * ((i : Int) + 1)) % 193 = 0 := fun h => by
  have hd : (193 : Int) ∣ D * ((j : Int) + 1) * ((i : Int) + 1) := Int.dvd_of_emod_eq_zero h
  have hn := Int.natAbs_dvd_natAbs.2 hd
  rw [Int.natAbs_mul, Int.natAbs_mul] at hn
  have e1 : ((j : Int) + 1).natAbs = j + 1 := by omega
  have e2 : ((i : Int) + 1).natAbs = i + 1 := by omega
  rw [e1, e2] at hn
  exact no193 ⟨D.natAbs, by omega⟩ ⟨j, hj⟩ ⟨i, hi⟩ (by simp only; omega) (Nat.mod_eq_zero_of_dvd hn)
/-- **A sheet of which one digit was changed is no sheet.** -/
theorem spoilt {b : Ply} (ok : plOK b = true) {k : Nat} (hk : k < (textS b).length) {c : UInt8} (hd : isD (textS b)[k] = true) (hc : isD c = true) (hne : (textS b)[k] ≠ c) : parseS ((textS b).set k c) = none := by
  have td := ok_td ok
  have hlp := (ok_lines ok).1
  have hll := ok_line ok
  cases hq : parseS ((textS b).set k c) with
  | none => rfl
  | some q' =>
    exfalso
    obtain ⟨tq, hs⟩ := parse_iff.1 hq
    have cp := seal_cut (lines_not td)
    have cq := seal_cut (lines_not tq)
    change cut 10 (textS b) = _ at cp
    change cut 10 (textS q') = _ at cq
    have h10 : (textS b)[k] ≠ 10 := fun e => by rw [e] at hd; revert hd; decide
    have c10 : c ≠ 10 := fun e => by rw [e] at hc; revert hc; decide
    obtain ⟨i, j, x, g1, g2, g3⟩ := cut_set c10 (textS b) k hk h10
    rw [← hs, cq, cp] at g3
    rw [cp] at g1
    have hj : j < x.length := (List.getElem?_eq_some_iff.1 g2).1
    have hxj : x.getD j 0 = (textS b)[k] := by rw [List.getD_eq_getElem?_getD, g2]; rfl
    have rp : 0 ≤ ctT (linesS b) (linesS b).length % 193 ∧ ctT (linesS b) (linesS b).length % 193 < 193 := by omega
    have rq : 0 ≤ ctT (linesS q') (linesS q').length % 193 ∧ ctT (linesS q') (linesS q').length % 193 < 193 := by omega
    have b1 := (isD_iff _).1 hd
    have b2 := (isD_iff _).1 hc
    rcases Nat.lt_trichotomy i (linesS b).length with hi | hi | hi
    · rw [List.set_append_left _ _ hi] at g3
      rw [List.getElem?_append_left hi] at g1
      obtain ⟨e1, e2⟩ := List.append_inj' g3 rfl
      have e2 := List.cons.inj e2 |>.1
      have e3 := endL_inj rq rp e2
      have hxm : x ∈ linesS b := List.mem_of_getElem? g1
      have hxl := hll x hxm
      have hxd : (linesS b).getD i [] = x := by rw [List.getD_eq_getElem?_getD, g1]; rfl
      rw [e1, List.length_set, ctT_set hi, if_pos hi, hxd, csL_set hj, hxj] at e3
      refine not193 (D := (c.toNat : Int) - ((textS b)[k]).toNat) (j := j) (i := i) ?_ (by omega) (by omega) (by omega) (by omega) (by omega)
      intro e
      exact hne (UInt8.toNat_inj.1 (by omega))
    · subst hi
      rw [List.set_append_right _ _ (Nat.le_refl _), Nat.sub_self] at g3
      rw [List.getElem?_append_right (Nat.le_refl _), Nat.sub_self] at g1
      obtain ⟨e1, e2⟩ := List.append_inj' g3 rfl
      simp only [List.getElem?_cons_zero, Option.some.injEq] at g1
      simp only [List.set_cons_zero, List.cons.injEq, and_true] at e2
      rw [e1, g1] at e2
      have := congrArg (fun l : List UInt8 => l[j]?) e2
      simp only [List.getElem?_set_self hj] at this
      rw [g2] at this
      exact hne (Option.some.inj this)
    · rw [List.getElem?_append_right (by omega)] at g1
      obtain ⟨d, hd'⟩ : ∃ d, i - (linesS b).length = d + 1 := ⟨i - (linesS b).length - 1, by omega⟩
      rw [hd'] at g1
      rcases d with _ | d
      · simp only [List.getElem?_cons_succ, List.getElem?_cons_zero, Option.some.injEq] at g1
        subst g1; simp at hj
      · simp at g1
end St
namespace Go.Proofs.YtfmpabgblbbcdaaGreatDoor
open Go Go.Ab Ni St
open Hd hiding sz
abbrev C (c : UInt8) : AV := .raw (.int .u8 c.toNat)
theorem rin_pure (n lo hi : Int) : APure Tryz.prog 77 [I n, I lo, I hi] (B (inn n lo hi)) := by
  refine ap Tryz.func77 (fun e0 he0 => ?_)
  refine wz 5 ?_
  refine sz 10 (fun g1 g1' => ?_) (fun g1 g1' => ?_)
  ·refine wz 5 ?_
   exact rz rfl (Less.eq (by simp [inn, *]))
  refine wz 5 ?_
  exact rz rfl (Less.eq (by simp [inn, *]))
end Go.Proofs.YtfmpabgblbbcdaaGreatDoor
namespace Go.Proofs.YtfmpabgblbbcdaaGreatDoor
open Go Go.Ab Ni St
open Hd hiding sz
theorem xprint_ok {p : Ply} (hh : p.hts.length ≤ 1000000) (hf : p.figs.length ≤ 1000000) (hs : p.scs.length ≤ 1000000) (hx : ∀ x ∈ p.scs, x.moved.length ≤ 1000000 ∧ x.rest.length ≤ 1000000 ∧ x.taken.length ≤ 1000000) (h1 : plOK p = true)  : APure Tryz.prog 51 [plA p] (.tup [S (textS p), I 0]) := by
  refine ap Tryz.func51 (fun e0 he0 => ?_)
  refine vz 3 ?_
  refine sq_nil ?_
  refine aw_seq ?_
  refine aw_seq ?_
  have hpl := isplay_pure p hh hf hs hx
  rw [h1] at hpl
  have gP := plOK_B h1
  refine wz 1 ?_
  refine kz az (hpl) ?_
  refine wz 3 ?_
  refine kz az (sheet_pure (sm_ok h1)) ?_
  refine wz 2 ?_
  exact retQ_pure (v := .tup [.raw _, .raw _]) rfl rfl (less_tup ⟨jz, jz, trivial⟩)
end Go.Proofs.YtfmpabgblbbcdaaGreatDoor
namespace Go.Proofs.YtfmpabgblbbcdaaGreatDoor
open Go Go.Ab Ni St
open Hd hiding sz
instance en112 : EnT Tryz.prog 112 := ⟨Ent.of Tryz.func112 (by kernel_rfl) rfl⟩
instance en19 : EnT Tryz.prog 19 := ⟨Ent.of Tryz.func19 (by kernel_rfl) rfl⟩
instance en22 : EnT Tryz.prog 22 := ⟨Ent.of Tryz.func22 (by kernel_rfl) rfl⟩
instance en27 : EnT Tryz.prog 27 := ⟨Ent.of Tryz.func27 (by kernel_rfl) rfl⟩
instance en54 : EnT Tryz.prog 54 := ⟨Ent.of Tryz.func54 (by kernel_rfl) rfl⟩
instance en77 : EnT Tryz.prog 77 := ⟨Ent.of Tryz.func77 (by kernel_rfl) rfl⟩
instance en78 : EnT Tryz.prog 78 := ⟨Ent.of Tryz.func78 (by kernel_rfl) rfl⟩
instance en95 : EnT Tryz.prog 95 := ⟨Ent.of Tryz.func95 (by kernel_rfl) rfl⟩
theorem all_of {α : Type} {q : α → Bool} {l : List α} (h : ∀ j, (hj : j < l.length) → q l[j] = true) : l.all q = true := List.all_eq_true.2 fun x hx => by obtain ⟨j, hj, rfl⟩ := List.getElem_of_mem hx; exact h j hj
theorem all_bad {α : Type} {q : α → Bool} {l : List α} {i : Nat} (hi : i < l.length) (h : q l[i] = false) : l.all q = false := by rw [List.all_eq_false]; exact ⟨_, List.getElem_mem hi, by rw [h]; simp⟩
theorem all_sym (a b : List Int) : (a.all fun n => !decide (n ∈ b)) = b.all fun n => !decide (n ∈ a) := by
  rw [Bool.eq_iff_iff, List.all_eq_true, List.all_eq_true]
  simp only [Bool.not_eq_true', decide_eq_false_iff_not]
  exact ⟨fun h n hn hm => h n hm hn, fun h n hn hm => h n hm hn⟩
def shX (x : Scn) : Bool := decide (x.moved.length ≤ 10) && decide (x.rest.length ≤ 10) && decide (x.taken.length ≤ 10)
def shB (p : Ply) : Bool := decide (p.hts.length ≤ 10) && decide (p.figs.length ≤ 8) && decide (p.scs.length ≤ 7) && decide (∀ i, (hi : i < p.scs.length) → i < 8 → shX p.scs[i] = true)
theorem shB_row {p : Ply} {i : Nat} (hi : i < p.scs.length) (h8 : i < 8) (h : shX p.scs[i] = false) : shB p = false := by
  unfold shB
  rw [decide_eq_false (p := ∀ i, (hi : i < p.scs.length) → i < 8 → shX p.scs[i] = true) (fun q => by rw [q i hi h8] at h; cases h)]; simp
theorem shB_fin {p : Ply} (h : ∀ i, (hi : i < p.scs.length) → i < 8 → shX p.scs[i] = true) : shB p = (decide (p.hts.length ≤ 10) && decide (p.figs.length ≤ 8) && decide (p.scs.length ≤ 7)) := by
  unfold shB; rw [decide_eq_true h, Bool.and_true]
theorem shB_len {p : Ply} (h : shB p = true) : p.hts.length ≤ 1000000 ∧ p.figs.length ≤ 1000000 ∧ p.scs.length ≤ 1000000 ∧ ∀ x ∈ p.scs, x.moved.length ≤ 1000000 ∧ x.rest.length ≤ 1000000 ∧ x.taken.length ≤ 1000000 := by
  unfold shB at h
  simp only [Bool.and_eq_true, decide_eq_true_eq] at h
  refine ⟨by omega, by omega, by omega, fun x hx => ?_⟩
  obtain ⟨i, hi, rfl⟩ := List.getElem_of_mem hx
  have := h.2 i hi (by omega)
  unfold shX at this
  simp only [Bool.and_eq_true, decide_eq_true_eq] at this
  omega
theorem fieldsOf_st {P : Program} {t : TypeId} {fs : Array Field} (h : P.underlying t = some (.struct fs)) : P.fieldsOf t = fs := by unfold Program.fieldsOf; rw [h]
theorem figEq (a b c a' b' c' : Int) (w : World) : (Op.equalIn 10000 82 (.agg #[.int .i64 a, .int .i64 b, .int .i64 c]) (.agg #[.int .i64 a', .int .i64 b', .int .i64 c'])).run Tryz.prog w = .ok (decide (a = a') && (decide (b = b') && decide (c = c'))) w := by
  have h3 : Tryz.prog.underlying 3 = some (.int .i64) := Tryz.underlying3
  have h80 : Tryz.prog.underlying 80 = some (.int .i64) := Tryz.underlying80
  rw [run_equalIn_struct w 9999 82 _ _ (by rw [fieldsOf_st Tryz.underlying82]; exact Tryz.underlying82) (by kernel_rfl), fieldsOf_st Tryz.underlying82]
  have q0 : ∀ (x y z : Int) (w : World), (part 80 #[.int .i64 x, .int .i64 y, .int .i64 z] 0).run Tryz.prog w = .ok (.int .i64 x) w := fun x y z w => by
    simp [part, Tryz.isAgg80]
  have q1 : ∀ (x y z : Int) (w : World), (part 3 #[.int .i64 x, .int .i64 y, .int .i64 z] 1).run Tryz.prog w = .ok (.int .i64 y) w := fun x y z w => by
    simp [part, Tryz.isAgg3]
  have q2 : ∀ (x y z : Int) (w : World), (part 3 #[.int .i64 x, .int .i64 y, .int .i64 z] 2).run Tryz.prog w = .ok (.int .i64 z) w := fun x y z w => by
    simp [part, Tryz.isAgg3]
  simp [Op.eqFields, q0, q1, q2, run_equalIn_int _ _ _ _ _ _ _ h3, run_equalIn_int _ _ _ _ _ _ _ h80]
  by_cases h1 : a = a' <;> by_cases h2 : b = b' <;> by_cases h4 : c = c' <;> simp [h1, h2, h4]
theorem ev_neqF {r : Option Nat} {H : List AObj} {ρ : Operand → AV} {d : Option Tmp} {t : TypeId} {p : String} {af : Array Edge} {g : Option (Nat × Bool)} {x y : Operand} {yt : TypeId} {f : Fgr} (hx : Less (ρ x) (.agg (fgC f))) (hy : Less (ρ y) (.agg (fgC f))) : Ev Tryz.prog r ⟨d, .binOp .neq 82 x y yt, t, p, af, g⟩ H ρ (B false) :=
  ev_less (ev_neq_agg (by kernel_rfl) (figEq f.side f.rank f.hands f.side f.rank f.hands) (Less.trans hx (less_agg_raw (vs := [.int .i64 f.side, .int .i64 f.rank, .int .i64 f.hands]) rfl)) (Less.trans hy (less_agg_raw (vs := [.int .i64 f.side, .int .i64 f.rank, .int .i64 f.hands]) rfl))) (Less.eq (by simp))
theorem has_pure (l : List Int) (n : Int) (hl : l.length ≤ 1000000) : APure Tryz.prog 27 [ints l, I n] (B (decide (n ∈ l))) := by
  refine ap Tryz.func27 (fun e0 he0 => ?_)
  refine wz 2 ?_
  refine aw_loopk (ι := { k : Nat // k ≤ l.length ∧ ∀ i, (hi : i < l.length) → i < k → l[i] ≠ n }) [0, 1] (fun i => [(5, I i.1)]) (fun H i => H) (fun i => l.length - i.1) (⟨0, Nat.zero_le _, by omega⟩) ⟨jz, jz, jz, trivial⟩ rfl ?_
  rintro ⟨k, hk, hok⟩
  refine nz ?_
  refine wz 4 ?_
  refine iz (fun c_9 c_9' => ?_) (fun c_9 c_9' => ?_)
  ·have hkL : k < l.length := by omega
   refine wz 6 ?_
   refine iz (fun c_17 c_17' => ?_) (fun c_17 c_17' => ?_)
   ·have hmem : n ∈ l := by have h5 := of_decide_eq_true c_17; exact h5 ▸ List.getElem_mem hkL
    refine wz 1 ?_
    exact rz rfl (Less.eq (by rw [decide_eq_true hmem]))
   refine wz 3 ?_
   exact ⟨⟨k + 1, by omega, fun i hi h => (by by_cases e : i = k; (subst e; simpa using c_17); exact hok i hi (by omega))⟩, by simp only; omega, Sub.slots ⟨jz, jz, jz, trivial⟩⟩
  obtain rfl : k = l.length := by omega
  have hno : ¬ n ∈ l := fun h => by obtain ⟨i, hi, h6⟩ := List.getElem_of_mem h; exact hok i hi hi h6
  refine wz 1 ?_
  exact rz rfl (Less.eq (by rw [decide_eq_false hno]))
theorem rrising_pure (l : List Int) (n : Nat) (hl : l.length ≤ 1000000) (hn : n ≤ 1000000) : APure Tryz.prog 95 [ints l, I n] (B (rising l n)) := by
  refine ap Tryz.func95 (fun e0 he0 => ?_)
  refine wz 2 ?_
  refine aw_loopk (ι := { k : Nat // k ≤ l.length ∧ ∀ i, (hi : i < l.length) → i < k → (0 ≤ l[i] ∧ l[i] < n) ∧ (0 < i → l[i - 1] < l[i]) }) [0, 1] (fun i => [(5, I i.1)]) (fun H i => H) (fun i => l.length - i.1) (⟨0, Nat.zero_le _, by omega⟩) ⟨jz, jz, jz, trivial⟩ rfl ?_
  rintro ⟨k, hk1, hok⟩
  refine nz ?_
  refine wz 4 ?_
  refine iz (fun c_9 c_9' => ?_) (fun c_9 c_9' => ?_)
  ·have hkl : k < l.length := by omega
   have hin : inn l[k] 0 ((n : Int) - 1) = true ↔ 0 ≤ l[k] ∧ l[k] ≤ (n : Int) - 1 := by unfold inn; simp
   refine wz 0 ?_
   refine aw_draw 24 mo (by kernel_rfl) ?_
   refine dz 6 ?_
   refine dkz az (rin_pure _ _ _) ?_
   refine dz 2 ?_
   refine dsz 20 (fun g4_8 g4_8' => ?_) (fun g4_8 g4_8' => ?_)
   ·have hb0 : ¬ (0 ≤ l[k] ∧ l[k] ≤ (n : Int) - 1) := fun q => by rw [hin.2 q] at g4_8; simp at g4_8
    have hno : rising l n = false := rising_no hkl (fun q => hb0 (by omega))
    refine dz 15 ?_
    refine wz 2 ?_
    exact rz rfl (Less.eq (by rw [hno]))
   have hb1 : 0 ≤ l[k] ∧ l[k] ≤ (n : Int) - 1 := hin.1 (by simpa using g4_8)
   refine dz 3 ?_
   refine dsz 23 (fun g4_11 g4_11' => ?_) (fun g4_11 g4_11' => ?_)
   ·refine dz 7 ?_
    refine dr_yes rfl rfl (less_b g4_11) rfl (ev_index_map (k := k - 1) sl22.h jz jz (by omega) (by omega)) ?_
    refine dz 4 ?_
    refine wz 0 ?_
    refine iz (fun c_35 c_35' => ?_) (fun c_35 c_35' => ?_)
    ·have hno : rising l n = false := rising_no hkl (fun q => by have h5 := q.2 (by omega); have h6 := of_decide_eq_true c_35; omega)
     refine wz 1 ?_
     exact rz rfl (Less.eq (by rw [hno]))
    have hst : (0 ≤ l[k] ∧ l[k] < n) ∧ (0 < k → l[k - 1] < l[k]) := ⟨by omega, fun q => by have := of_decide_eq_false c_35; omega⟩
    refine wz 3 ?_
    exact ⟨⟨k + 1, by omega, fun i hi q => by rcases Nat.lt_or_ge i k with q2 | q2; exact hok i hi q2; (obtain rfl : i = k := by omega); exact hst⟩, by simp only; omega, Sub.slots ⟨jz, jz, jz, trivial⟩⟩
   have hst : (0 ≤ l[k] ∧ l[k] < n) ∧ (0 < k → l[k - 1] < l[k]) := ⟨by omega, fun q => by omega⟩
   refine dz 12 ?_
   refine wz 4 ?_
   exact ⟨⟨k + 1, by omega, fun i hi q => by rcases Nat.lt_or_ge i k with q2 | q2; exact hok i hi q2; (obtain rfl : i = k := by omega); exact hst⟩, by simp only; omega, Sub.slots ⟨jz, jz, jz, trivial⟩⟩
  obtain rfl : k = l.length := by omega
  have hall := rising_yes fun i hi => hok i hi hi
  refine wz 1 ?_
  exact rz rfl (Less.eq (by rw [hall]))
theorem rscene_pure (p : Ply) (x : Scn) (h1 : x.moved.length ≤ 1000000) (h2 : x.rest.length ≤ 1000000) (h3 : x.taken.length ≤ 1000000) (hh : p.hts.length ≤ 1000000) (hf : p.figs.length ≤ 1000000) : APure Tryz.prog 78 [plA p, .agg (scC x)] (B (scOK p x)) := by
  refine ap Tryz.func78 (fun e0 he0 => ?_)
  refine wz 8 ?_
  refine kz az (rrising_pure x.moved p.figs.length h1 hf) ?_
  refine wz 2 ?_
  refine sz 13 (fun g1_7 g1_7' => ?_) (fun g1_7 g1_7' => ?_)
  ·refine wz 31 ?_
   exact rz rfl (Less.eq (congrArg B (by unfold scOK; simp [*])))
  refine wz 5 ?_
  refine ky az (rrising_pure x.rest p.figs.length h2 hf) ?_
  refine wz 3 ?_
  refine sz 22 (fun g1_16 g1_16' => ?_) (fun g1_16 g1_16' => ?_)
  ·refine wz 22 ?_
   exact rz rfl (Less.eq (congrArg B (by unfold scOK; simp [*])))
  refine wz 5 ?_
  refine ky az (rrising_pure x.taken p.hts.length h3 hh) ?_
  refine wz 3 ?_
  refine sz 31 (fun g1_25 g1_25' => ?_) (fun g1_25 g1_25' => ?_)
  ·refine wz 13 ?_
   exact rz rfl (Less.eq (congrArg B (by unfold scOK; simp [*])))
  refine wz 6 ?_
  refine sz 37 (fun g1_31 g1_31' => ?_) (fun g1_31 g1_31' => ?_)
  ·have k31 : ¬ x.rest.length ≤ 4 := by omega
   refine wz 7 ?_
   exact rz rfl (Less.eq (congrArg B (by unfold scOK; simp [*])))
  have k31 : x.rest.length ≤ 4 := by omega
  refine wz 2 ?_
  refine ky az (rin_pure _ _ _) ?_
  refine wz 2 ?_
  refine iz (fun c_42 c_42' => ?_) (fun c_42 c_42' => ?_)
  ·refine wz 1 ?_
   exact rz rfl (Less.eq (congrArg B (by unfold scOK; simp [*])))
  refine wz 1 ?_
  refine aw_loopk (ι := { k : Nat // k ≤ x.rest.length ∧ ∀ i, (hi : i < x.rest.length) → i < k → (!decide (x.rest[i] ∈ x.moved)) = true }) [3] (fun i => [(5, I i.1)]) (fun H i => H) (fun i => x.rest.length - i.1) (⟨0, Nat.zero_le _, by omega⟩) ⟨jz, jz, trivial⟩ rfl ?_
  rintro ⟨k, hk, hok⟩
  refine nz ?_
  refine wz 5 ?_
  refine iz (fun c_47 c_47' => ?_) (fun c_47 c_47' => ?_)
  ·have hkL : k < x.rest.length := by omega
   refine wz 0 ?_
   refine aw_draw 8 mo (by kernel_rfl) ?_
   refine dz 7 ?_
   refine dkz az (has_pure _ _ h1) ?_
   refine dr_end ?_
   refine wz 0 ?_
   refine iz (fun c_57 c_57' => ?_) (fun c_57 c_57' => ?_)
   ·have hbad : (x.rest.all fun n => !decide (n ∈ x.moved)) = false := all_bad hkL (by rw [decide_eq_true (of_decide_eq_true c_57)]; rfl)
    refine wz 1 ?_
    exact rz rfl (Less.eq (congrArg B (by unfold scOK; rw [all_sym, hbad]; simp)))
   refine wz 3 ?_
   exact ⟨⟨k + 1, by omega, fun i hi h => (by by_cases e : i = k; (subst e; rw [decide_eq_false (of_decide_eq_false c_57)]; rfl); exact hok i hi (by omega))⟩, by simp only; omega, Sub.slots ⟨jz, jz, trivial⟩⟩
  obtain rfl : k = x.rest.length := by omega
  have hall : (x.rest.all fun n => !decide (n ∈ x.moved)) = true := all_of fun j hj => hok j hj hj
  refine wz 1 ?_
  exact rz rfl (Less.eq (congrArg B (by unfold scOK; rw [all_sym, hall]; simp_all)))
theorem rplay_pure (p : Ply) (hh : p.hts.length ≤ 1000000) (hf : p.figs.length ≤ 1000000) (hs : p.scs.length ≤ 1000000) (hx : ∀ x ∈ p.scs, x.moved.length ≤ 1000000 ∧ x.rest.length ≤ 1000000 ∧ x.taken.length ≤ 1000000) : APure Tryz.prog 22 [plA p] (B (plOK p)) := by
  refine ap Tryz.func22 (fun e0 he0 => ?_)
  refine wz 5 ?_
  refine kz az (rin_pure _ _ _) ?_
  refine wz 2 ?_
  refine sz 12 (fun g1_5 g1_5' => ?_) (fun g1_5 g1_5' => ?_)
  ·refine wz 24 ?_
   exact rz rfl (Less.eq (by unfold plOK; simp_all))
  refine wz 3 ?_
  refine ky az (rin_pure _ _ _) ?_
  refine wz 3 ?_
  refine sz 19 (fun g1_12 g1_12' => ?_) (fun g1_12 g1_12' => ?_)
  ·refine wz 17 ?_
   exact rz rfl (Less.eq (by unfold plOK; simp_all))
  refine wz 3 ?_
  refine ky az (rin_pure _ _ _) ?_
  refine wz 3 ?_
  refine sz 26 (fun g1_19 g1_19' => ?_) (fun g1_19 g1_19' => ?_)
  ·refine wz 10 ?_
   exact rz rfl (Less.eq (by unfold plOK; simp_all))
  refine wz 5 ?_
  refine ky az (rin_pure _ _ _) ?_
  refine wz 2 ?_
  refine iz (fun c_34 c_34' => ?_) (fun c_34 c_34' => ?_)
  ·refine wz 1 ?_
   exact rz rfl (Less.eq (by unfold plOK; simp_all))
  refine wz 1 ?_
  refine aw_loopk (ι := { k : Nat // k ≤ p.hts.length ∧ ∀ i, (hi : i < p.hts.length) → i < k → inn p.hts[i] 1 9 = true }) [1] (fun i => [(3, I i.1)]) (fun H i => H) (fun i => p.hts.length - i.1) (⟨0, Nat.zero_le _, by omega⟩) ⟨jz, jz, trivial⟩ rfl ?_
  rintro ⟨k, hk, hok⟩
  refine nz ?_
  refine wz 5 ?_
  refine iz (fun c_39 c_39' => ?_) (fun c_39 c_39' => ?_)
  ·have hkl : k < p.hts.length := by omega
   refine wz 5 ?_
   refine kz az (rin_pure _ _ _) ?_
   refine wz 1 ?_
   refine iz (fun c_48 c_48' => ?_) (fun c_48 c_48' => ?_)
   ·have hbad : (p.hts.all fun n => inn n 1 9) = false := all_bad hkl (by simpa using c_48)
    refine wz 1 ?_
    exact rz rfl (Less.eq (by unfold plOK; rw [hbad]; simp))
   refine wz 3 ?_
   exact ⟨⟨k + 1, by omega, fun i hi h => (by by_cases e : i = k; (subst e; simpa using c_48); exact hok i hi (by omega))⟩, by simp only; omega, Sub.slots ⟨jz, jz, trivial⟩⟩
  obtain rfl : k = p.hts.length := by omega
  have hall1 : (p.hts.all fun n => inn n 1 9) = true := all_of fun j hj => hok j hj hj
  refine wz 1 ?_
  refine aw_loopk (ι := { k : Nat // k ≤ p.figs.length ∧ ∀ i, (hi : i < p.figs.length) → i < k → fgOK p.figs[i] = true }) [1] (fun i => [(4, I i.1)]) (fun H i => H) (fun i => p.figs.length - i.1) (⟨0, Nat.zero_le _, by omega⟩) ⟨jz, jz, trivial⟩ rfl ?_
  rintro ⟨k, hk2, hok2⟩
  refine nz ?_
  refine wz 5 ?_
  refine iz (fun c_53 c_53' => ?_) (fun c_53 c_53' => ?_)
  ·have hfl : k < p.figs.length := by omega
   have hfe : fgOK p.figs[k] = ((!decide (p.figs[k].side < 1) && !decide (p.figs[k].side > 3)) && inn p.figs[k].rank 1 9 && inn p.figs[k].hands 1 2) := by unfold fgOK; rw [show inn p.figs[k].side 1 3 = (!(decide (p.figs[k].side < 1)) && !(decide (p.figs[k].side > 3))) by unfold inn; rw [Bool.eq_iff_iff]; simp]
   refine wz 11 ?_
   refine sz 64 (fun g12_3 g12_3' => ?_) (fun g12_3 g12_3' => ?_)
   ·have hbad : p.figs.all fgOK = false := all_bad hfl (by rw [hfe]; simp [*])
    refine wz 18 ?_
    exact rz rfl (Less.eq (by unfold plOK; rw [hbad]; simp))
   refine wz 5 ?_
   refine sz 69 (fun g12_8 g12_8' => ?_) (fun g12_8 g12_8' => ?_)
   ·have hbad : p.figs.all fgOK = false := all_bad hfl (by rw [hfe]; simp [*])
    refine wz 13 ?_
    exact rz rfl (Less.eq (by unfold plOK; rw [hbad]; simp))
   refine wz 2 ?_
   refine ky az (rin_pure _ _ _) ?_
   refine wz 3 ?_
   refine sz 75 (fun g12_14 g12_14' => ?_) (fun g12_14 g12_14' => ?_)
   ·have hbad : p.figs.all fgOK = false := all_bad hfl (by rw [hfe]; simp [*])
    refine wz 7 ?_
    exact rz rfl (Less.eq (by unfold plOK; rw [hbad]; simp))
   refine wz 2 ?_
   refine ky az (rin_pure _ _ _) ?_
   refine wz 2 ?_
   refine iz (fun c_80 c_80' => ?_) (fun c_80 c_80' => ?_)
   ·have hbad : p.figs.all fgOK = false := all_bad hfl (by rw [hfe]; simp [*])
    refine wz 1 ?_
    exact rz rfl (Less.eq (by unfold plOK; rw [hbad]; simp))
   have hfg : fgOK p.figs[k] = true := by rw [hfe]; simp [*]
   refine wz 3 ?_
   exact ⟨⟨k + 1, by omega, fun i hi h => (by by_cases e : i = k; (subst e; exact hfg); exact hok2 i hi (by omega))⟩, by simp only; omega, sb 1 ⟨jz, jz, trivial⟩⟩
  obtain rfl : k = p.figs.length := by omega
  have hall2 : p.figs.all fgOK = true := all_of fun j hj => hok2 j hj hj
  refine wz 1 ?_
  refine aw_loopk (ι := { k : Nat // k ≤ p.scs.length ∧ ∀ i, (hi : i < p.scs.length) → i < k → scOK p p.scs[i] = true }) [1] (fun i => [(6, I i.1)]) (fun H i => H) (fun i => p.scs.length - i.1) (⟨0, Nat.zero_le _, by omega⟩) ⟨jz, jz, trivial⟩ rfl ?_
  rintro ⟨k, hk3, hok3⟩
  refine nz ?_
  refine wz 5 ?_
  refine iz (fun c_85 c_85' => ?_) (fun c_85 c_85' => ?_)
  ·have hsl : k < p.scs.length := by omega
   have hxk := hx _ (List.getElem_mem hsl)
   refine wz 0 ?_
   refine aw_draw 8 mo (by kernel_rfl) ?_
   refine dz 6 ?_
   refine dkz az (rscene_pure p _ hxk.1 hxk.2.1 hxk.2.2 hh hf) ?_
   refine dz 1 ?_
   refine wz 0 ?_
   refine iz (fun c_95 c_95' => ?_) (fun c_95 c_95' => ?_)
   ·have hbad : p.scs.all (scOK p) = false := all_bad hsl (by simpa using c_95)
    refine wz 1 ?_
    exact rz rfl (Less.eq (by unfold plOK; rw [hbad]; simp))
   refine wz 3 ?_
   exact ⟨⟨k + 1, by omega, fun i hi h => (by by_cases e : i = k; (subst e; simpa using c_95); exact hok3 i hi (by omega))⟩, by simp only; omega, Sub.slots ⟨jz, jz, trivial⟩⟩
  obtain rfl : k = p.scs.length := by omega
  have hall3 : p.scs.all (scOK p) = true := all_of fun j hj => hok3 j hj hj
  refine wz 1 ?_
  exact rz rfl (Less.eq (by unfold plOK; rw [hall1, hall2, hall3]; simp_all))
theorem short_pure (p : Ply) : APure Tryz.prog 19 [plA p] (B (shB p)) := by
  refine ap Tryz.func19 (fun e0 he0 => ?_)
  refine wz 3 ?_
  refine aw_loopk (ι := { k : Nat // k ≤ p.scs.length ∧ k ≤ 8 ∧ ∀ i, (hi : i < p.scs.length) → i < k → shX p.scs[i] = true }) [1] (fun i => [(3, I i.1)]) (fun H i => H) (fun i => p.scs.length - i.1) (⟨0, Nat.zero_le _, by omega, by omega⟩) ⟨jz, jz, trivial⟩ rfl ?_
  rintro ⟨k, hk, hk8, hok⟩
  refine nz ?_
  refine wz 6 ?_
  refine sz 10 (fun g2_5 g2_5' => ?_) (fun g2_5 g2_5' => ?_)
  ·have hkl : k < p.scs.length := by omega
   refine wz 3 ?_
   refine iz (fun c_13 c_13' => ?_) (fun c_13 c_13' => ?_)
   ·have hk8b : k < 8 := by have := of_decide_eq_true c_13; omega
    refine wz 12 ?_
    refine sz 25 (fun g5_4 g5_4' => ?_) (fun g5_4 g5_4' => ?_)
    ·have hbad := shB_row hkl hk8b (by unfold shX; simp; omega)
     refine wz 13 ?_
     exact rz rfl (Less.eq (by rw [hbad]))
    refine wz 6 ?_
    refine sz 31 (fun g5_10 g5_10' => ?_) (fun g5_10 g5_10' => ?_)
    ·have hbad := shB_row hkl hk8b (by unfold shX; simp; omega)
     refine wz 7 ?_
     exact rz rfl (Less.eq (by rw [hbad]))
    refine wz 5 ?_
    refine iz (fun c_36 c_36' => ?_) (fun c_36 c_36' => ?_)
    ·have h6 := of_decide_eq_true c_36
     have hbad := shB_row hkl hk8b (by unfold shX; simp; omega)
     refine wz 1 ?_
     exact rz rfl (Less.eq (by rw [hbad]))
    have h6 := of_decide_eq_false c_36
    have hsx : shX p.scs[k] = true := by unfold shX; simp; omega
    refine wz 3 ?_
    exact ⟨⟨k + 1, by omega, by omega, fun i hi h => (by by_cases e : i = k; (subst e; exact hsx); exact hok i hi (by omega))⟩, by simp only; omega, sb 1 ⟨jz, jz, trivial⟩⟩
   refine wz 5 ?_
   refine sz 41 (fun g7_4 g7_4' => ?_) (fun g7_4 g7_4' => ?_)
   ·refine wz 6 ?_
    refine sz 47 (fun g7_10 g7_10' => ?_) (fun g7_10 g7_10' => ?_)
    ·refine wz 6 ?_
     exact rz rfl (Less.eq (congrArg B (by have h9 := of_decide_eq_false c_13; rw [shB_fin (fun i hi h8 => hok i hi (by omega)), Bool.eq_iff_iff]; simp; omega)))
    refine wz 6 ?_
    exact rz rfl (Less.eq (congrArg B (by have h9 := of_decide_eq_false c_13; rw [shB_fin (fun i hi h8 => hok i hi (by omega)), Bool.eq_iff_iff]; simp; omega)))
   refine wz 12 ?_
   exact rz rfl (Less.eq (congrArg B (by have h9 := of_decide_eq_false c_13; rw [shB_fin (fun i hi h8 => hok i hi (by omega)), Bool.eq_iff_iff]; simp; omega)))
  obtain rfl : k = p.scs.length := by omega
  refine wz 9 ?_
  refine sz 41 (fun g7_4 g7_4' => ?_) (fun g7_4 g7_4' => ?_)
  ·refine wz 6 ?_
   refine sz 47 (fun g7_10 g7_10' => ?_) (fun g7_10 g7_10' => ?_)
   ·refine wz 6 ?_
    exact rz rfl (Less.eq (congrArg B (by rw [shB_fin (fun i hi _ => hok i hi hi), Bool.eq_iff_iff]; simp; omega)))
   refine wz 6 ?_
   exact rz rfl (Less.eq (congrArg B (by rw [shB_fin (fun i hi _ => hok i hi hi), Bool.eq_iff_iff]; simp; omega)))
  refine wz 12 ?_
  exact rz rfl (Less.eq (congrArg B (by rw [shB_fin (fun i hi _ => hok i hi hi), Bool.eq_iff_iff]; simp; omega)))
theorem samesc_pure (l : List Scn) (hs : l.length ≤ 1000000) (hx : ∀ x ∈ l, x.moved.length ≤ 1000000 ∧ x.rest.length ≤ 1000000 ∧ x.taken.length ≤ 1000000) : APure Tryz.prog 112 [scs l, scs l] (B true) := by
  refine ap Tryz.func112 (fun e0 he0 => ?_)
  refine wz 6 ?_
  refine iz (fun c_10 c_10' => ?_) (fun c_10 c_10' => ?_)
  ·exfalso
   simp at c_10
  refine wz 1 ?_
  refine aw_loopk (ι := { k : Nat // k ≤ l.length }) [0, 1] (fun i => [(5, I i.1)]) (fun H i => H) (fun i => l.length - i.1) (⟨0, Nat.zero_le _⟩) ⟨jz, jz, jz, trivial⟩ rfl ?_
  rintro ⟨k, hk⟩
  refine nz ?_
  refine wz 4 ?_
  refine iz (fun c_14 c_14' => ?_) (fun c_14 c_14' => ?_)
  ·have hkl : k < l.length := by omega
   have hxk := hx _ (List.getElem_mem hkl)
   refine wz 0 ?_
   refine aw_draw 53 mo (by kernel_rfl) ?_
   refine dz 12 ?_
   refine dsz 28 (fun g6_11 g6_11' => ?_) (fun g6_11 g6_11' => ?_)
   ·exfalso
    simp at g6_11
   refine dz 10 ?_
   refine dky az (same_t hxk.1 hxk.1 rfl) ?_
   refine dz 3 ?_
   refine dsz 42 (fun g6_25 g6_25' => ?_) (fun g6_25 g6_25' => ?_)
   ·exfalso
    simp at g6_25
   refine dz 10 ?_
   refine dky az (same_t hxk.2.1 hxk.2.1 rfl) ?_
   refine dz 3 ?_
   refine dsz 56 (fun g6_39 g6_39' => ?_) (fun g6_39 g6_39' => ?_)
   ·exfalso
    simp at g6_39
   refine dz 10 ?_
   refine dky az (same_t hxk.2.2 hxk.2.2 rfl) ?_
   refine dz 2 ?_
   refine wz 0 ?_
   refine iz (fun c_69 c_69' => ?_) (fun c_69 c_69' => ?_)
   ·exfalso
    simp at c_69
   refine wz 3 ?_
   exact ⟨⟨k + 1, by omega⟩, by simp only; omega, Sub.slots ⟨jz, jz, jz, trivial⟩⟩
  refine wz 1 ?_
  exact rz rfl (Less.eq rfl)
theorem samepl_pure (p : Ply) (hh : p.hts.length ≤ 1000000) (hf : p.figs.length ≤ 1000000) (hs : p.scs.length ≤ 1000000) (hx : ∀ x ∈ p.scs, x.moved.length ≤ 1000000 ∧ x.rest.length ≤ 1000000 ∧ x.taken.length ≤ 1000000) : APure Tryz.prog 54 [plA p, plA p] (B true) := by
  refine ap Tryz.func54 (fun e0 he0 => ?_)
  refine wz 9 ?_
  refine sz 11 (fun g1_5 g1_5' => ?_) (fun g1_5 g1_5' => ?_)
  ·exfalso
   simp at g1_5
  refine wz 4 ?_
  refine ky az (same_t hh hh rfl) ?_
  refine wz 3 ?_
  refine sz 19 (fun g1_13 g1_13' => ?_) (fun g1_13 g1_13' => ?_)
  ·exfalso
   simp at g1_13
  refine wz 8 ?_
  refine iz (fun c_27 c_27' => ?_) (fun c_27 c_27' => ?_)
  ·exfalso
   simp at c_27
  refine wz 1 ?_
  refine aw_loopk (ι := { k : Nat // k ≤ p.figs.length }) [2, 3] (fun i => [(5, I i.1)]) (fun H i => H) (fun i => p.figs.length - i.1) (⟨0, Nat.zero_le _⟩) ⟨jz, jz, jz, trivial⟩ rfl ?_
  rintro ⟨k, hk⟩
  refine nz ?_
  refine wz 5 ?_
  refine iz (fun c_32 c_32' => ?_) (fun c_32 c_32' => ?_)
  ·have hkl : k < p.figs.length := by omega
   refine wz 0 ?_
   refine aw_draw 11 mo (by kernel_rfl) ?_
   refine dz 10 ?_
   refine dr_ev rfl (ev_neqF jz jz) ?_
   refine dr_end ?_
   refine wz 0 ?_
   refine iz (fun c_45 c_45' => ?_) (fun c_45 c_45' => ?_)
   ·exfalso
    simp at c_45
   refine wz 3 ?_
   exact ⟨⟨k + 1, by omega⟩, by simp only; omega, Sub.slots ⟨jz, jz, jz, trivial⟩⟩
  refine wz 4 ?_
  refine kz az (samesc_pure p.scs hs hx) ?_
  refine wz 1 ?_
  exact rz rfl jz
end Go.Proofs.YtfmpabgblbbcdaaGreatDoor
namespace Go.Proofs.YtfmpabgblbbcdaaGreatDoor
open Go Go.Ab Ni St
open Hd hiding sz
instance en20 : EnT Tryz.prog 20 := ⟨Ent.of Tryz.func20 (by kernel_rfl) rfl⟩
instance en51 : EnT Tryz.prog 51 := ⟨Ent.of Tryz.func51 (by kernel_rfl) rfl⟩
instance sl77 : SlE Tryz.prog 77 5 1 := ⟨by kernel_rfl⟩
instance ty5 : TyF Tryz.prog 5 false 1 := ⟨by kernel_rfl⟩
section
variable [Tabs]
def markO (et : TypeId) (cs : Array Value) : Obj := .cells cs et (cs.size, cs.size + 1)
def setMark (e : Env) (i b : Nat) (et : TypeId) (cs : Array Value) : Env := { e with H := e.H.set i (.raw (markO et cs)), w := e.w.setRow b cs }
theorem setMark_T {e : Env} {i b : Nat} {et : TypeId} {o : Obj} {cs : Array Value} (h : e.H[i]? = some (.raw o)) (j : Nat) : (setMark e i b et cs).T j = e.T j := by
  unfold Env.T setMark
  by_cases hj : i = j
  · subst hj
    simp only [List.getElem?_set_self (lt_of_get? h), h, tokOf]
  · simp only [List.getElem?_set_ne hj]
theorem setMark_le {e : Env} (ok : EnvOK e) {i b : Nat} {et : TypeId} {o : Obj} {cs : Array Value} (h : e.H[i]? = some (.raw o)) (hb : e.μ i = some b) (hg : e.G b = 0) : e.Le (setMark e i b et cs) := by
  have hi := lt_of_get? h
  refine ⟨by simp [setMark], fun j _ ht => ⟨by rw [setMark_T h]; exact ht, fun _ hb => hb⟩, fun b' off ho => ⟨ho, ?_⟩, fun j n ht => ⟨n, by rw [setMark_T h]; exact ht, Nat.le_refl _, fun _ => ⟨rfl, fun b' cs' t hm hh => ⟨rfl, cs', ?_, rfl⟩⟩⟩⟩
  · have hne : b' ≠ b := fun e1 => by subst e1; rw [hg] at ho; omega
    exact cell?_of_heap (setRow_other _ _ _ _ hne)
  · have hj : j < e.H.length := by
      rcases Nat.lt_or_ge j e.H.length with k | k
      · exact k
      · unfold Env.T at ht; rw [List.getElem?_eq_none k] at ht; simp [tokOf] at ht
    have hne : b' ≠ b := fun e1 => by
      subst e1
      have := ok.inj i j b' hi hj hb hm
      subst this
      unfold Env.T at ht; rw [h] at ht; simp [tokOf] at ht
    exact (setRow_other _ _ _ _ hne).trans hh
section seq
variable {c : Ctx} {ops : Array Oper} {Q : AExit → St → Prop} {rest : List Oper} {s : St} {i : Nat}
variable {d : Option Tmp} {t : TypeId} {p : String} {af : Array Edge}
theorem setMark_sim {e : Env} {a : Act} (hs : Sim c s e a) {i b : Nat} {et : TypeId} {cs cs0 : Array Value} (h : s.H[i]? = some (.raw (markO et cs0))) (hb : e.μ i = some b) (hg : e.G b = 0)
    (hh : e.w.heap[b]? = some (markO et cs0)) (hsz : cs.size = cs0.size) : Sim c { s with H := s.H.set i (.raw (markO et cs)) } (setMark e i b et cs) a := by
  have h' : e.H[i]? = some (.raw (markO et cs0)) := by rw [hs.H]; exact h
  have hi := lt_of_get? h'
  have le := setMark_le hs.ok (et := et) (cs := cs) h' hb hg
  have hnew : (e.w.setRow b cs).heap[b]? = some (markO et cs) := by
    have := setRow_heap e.w b _ cs _ _ hh
    rw [this, markO, hsz]
  refine ⟨hs.size, fun t => Rep.mono le _ (hs.slots t), hs.defers.mono le, by simp [setMark, hs.H], ⟨fun b' hb' => hs.ok.fresh b' (by simpa [setMark] using hb'), fun j o ho => ?_, fun j k b' hj hk => hs.ok.inj j k b' (by simpa [setMark] using hj) (by simpa [setMark] using hk), fun j b' hj hm => by
    have := hs.ok.live j b' (by simpa [setMark] using hj) hm; simpa [setMark] using this,
    hs.ok.tabs.of (by simp [setMark]) (fun b' _ hn => setRow_other _ _ _ _ fun e1 => by subst e1; exact hn i hi hb) fun j b' hj hm => .inr ⟨j, by simpa [setMark] using hj, hm⟩⟩, ⟨by simpa [setMark] using hs.fr.size, hs.fr.still.trans ⟨rfl, rfl⟩, fun b' hb' hn => ?_, fun j b' hj hm => hs.fr.objs j b' (by simpa [setMark] using hj) hm, hs.fr.le.trans le⟩⟩
  · by_cases hj : i = j
    · subst hj
      simp only [setMark, List.getElem?_set_self hi, Option.some.injEq] at ho
      subst ho
      exact ⟨b, hb, hnew, hg⟩
    · simp only [setMark, List.getElem?_set_ne hj] at ho
      refine ObjSim.mono le (hs.ok.objs j o ho) rfl (fun b' hb' => ⟨setRow_other _ _ _ _ ?_, rfl⟩)
      intro e1; subst e1
      exact hj (hs.ok.inj i j b' hi (lt_of_get? ho) hb hb')
  · obtain ⟨h2, h3⟩ := hs.fr.heap b' hb' hn
    have hne : b' ≠ b := fun e1 => by
      subst e1
      rcases hs.fr.objs i b' hi hb with h4 | ⟨j, hj, h4⟩
      · omega
      · exact hn j hj h4
    exact ⟨(setRow_other _ _ _ _ hne).trans h2, h3⟩
theorem sq_bytes {src dst et : TypeId} {x : Operand} {b : ByteArray} (hd : dOK c.nt d = true) (hsr : c.P.underlying src = some .string) (hds : c.P.underlying dst = some (.slice et)) (he : c.P.underlying et = some (.int .u8))
    (hx : Less (s.op x) (.raw (.string b)))
    (k : ∀ cap, b.size ≤ cap → SeqWP c ops Q (i + 1) rest (St.put { s with H := s.H ++ [.raw (markO et (bytesRow b cap))] } d (.msl s.H.length 0 b.size cap))) :
    SeqWP c ops Q i (⟨d, .convert src dst x, t, p, af, none⟩ :: rest) s := by
  refine sq_op fun e ac hs next hn' => ?_
  have hv := hx e _ (hs.op x)
  rw [Rep] at hv
  have hrun := run_bytes_of_string (P := c.P) e.w src dst et b hsr hds he
  have hle := grownCap_ge e.w b.size 0 et
  generalize grownCap e.w b.size 0 et = cap at hrun hle
  have hs1 := hs.ext (EnvOK.drew hs.ok)
  have hs2 := hs1.push (push_raw hs1.ok (markO et (bytesRow b cap)))
  refine ⟨about_FW _ _ _ _ _, ?_⟩
  show Oper.uponIn (FW c.r) 0 c.P _ ac next (lift c Q) (((Oper.semAt c.r ac.eval ⟨d, .convert src dst x, t, p, af, none⟩)).run c.P e.w)
  rw [semAt_of (by intro c h; cases h)]
  have : (execOp ac.eval ⟨d, .convert src dst x, t, p, af, none⟩).run c.P e.w = .ok (.value (.slice (some ⟨e.w.heap.size, 0, none⟩) b.size cap)) (e.w.drew.alloc (markO et (bytesRow b cap))) := by
    simp [execOp, hv, hrun, Result.andThen, markO]
  rw [this]
  refine hn' _ _ _ (k cap hle) (hs2.put hd ?_)
  rw [Rep]
  refine ⟨?_, ?_, e.w.heap.size, ?_, rfl, hle⟩
  · simp [Env.push, hs.H]
  · simp [Env.T, Env.push, hs.H, tokOf]
  · simp [Env.push, hs.H]
theorem sq_store_mark {st et : TypeId} {x y : Operand} {j off : Nat} {bb : Bool} {v : Value} {cs : Array Value} (hd : dOK c.nt d = true)
    (hx : Less (s.op x) (.ptr j off)) (hy : Less (s.op y) (.raw v)) (hj : s.H[j]? = some (.raw (markO et cs))) (ht : tySz c.P st = some (bb, 1)) (hvc : v.cells = #[v]) (hv1 : isCell v = true) (hle : off < cs.size)
    (k : SeqWP c ops Q (i + 1) rest (St.put { s with H := s.H.set j (.raw (markO et (cs.setIfInBounds off v))) } d .any)) : SeqWP c ops Q i (⟨d, .store st x y, t, p, af, none⟩ :: rest) s := by
  refine sq_op fun e ac hs next hn' => ?_
  have hyv := hy e _ (hs.op y)
  rw [Rep] at hyv
  have hp := hx e _ (hs.op x)
  rw [Rep] at hp
  obtain ⟨a1, a2, b, hb, hpv⟩ := hp
  obtain ⟨b', k1, k2, k3⟩ := hs.ok.objs j _ (by rw [hs.H]; exact hj)
  rw [hb] at k1; cases k1
  have h2 := (run_tyAgg (w := e.w) ht).2
  have h3 := run_storeCells_cells (P := c.P) b off [v] 0 e.w (fun m hm => by
      have : m = 0 := by simpa using hm
      subst this
      unfold World.cell?; simp only [k2, markO]; simp [hle]) (fun m hm => by
      have : m = 0 := by simpa using hm
      subst this
      unfold World.frozen?; simp only [k2, markO]; simp; omega) (fun u hu => by
      have : u = v := by simpa using hu
      subst this; exact hv1)
  simp only [Nat.add_zero] at h3
  have h4 : e.w.setCells b off [v] = e.w.setRow b (cs.setIfInBounds off v) := by
    simp only [World.setCells]
    exact setCell_eq_setRow e.w b off cs et _ v k2
  have hrun : (storeVar st ⟨b, off, none⟩ v).run c.P e.w = .ok () (e.w.setRow b (cs.setIfInBounds off v)) := by
    simp [storeVar, h2, hvc, h3, h4]
  have hsim := setMark_sim hs (cs := cs.setIfInBounds off v) hj hb k3 k2 (by simp)
  refine ⟨about_FW _ _ _ _ _, ?_⟩
  show Oper.uponIn (FW c.r) 0 c.P _ ac next (lift c Q) (((Oper.semAt c.r ac.eval ⟨d, .store st x y, t, p, af, none⟩)).run c.P e.w)
  rw [semAt_of (by intro c h; cases h)]
  have : (execOp ac.eval ⟨d, .store st x y, t, p, af, none⟩).run c.P e.w = .ok .skip (e.w.setRow b (cs.setIfInBounds off v)) := by
    simp [execOp, Instr.storeAt, hpv, Instr.sureAddr, hyv, hrun]
  rw [this]
  exact hn' _ _ _ k (hsim.put hd (by rw [Rep]; trivial))
end seq
section ev
variable {P : Program} {r : Option Nat} {H : List AObj} {ρ : Operand → AV}
variable {d : Option Tmp} {t : TypeId} {p : String} {af : Array Edge} {g : Option (Nat × Bool)}
theorem ev_string_mark {src dst et : TypeId} {x : Operand} {j cap : Nat} {cs : Array Value} {l : List UInt8} (hsr : P.underlying src = some (.slice et)) (he : P.underlying et = some (.int .u8)) (hds : P.underlying dst = some .string)
    (hx : Less (ρ x) (.msl j 0 l.length cap)) (hj : H[j]? = some (.raw (markO et cs))) (hc : ∀ m (h : m < l.length), cs[m]? = some (.int .u8 (l[m].toNat : Int))) :
    Ev P r ⟨d, .convert src dst x, t, p, af, g⟩ H ρ (.raw (.string ⟨l.toArray⟩)) :=
  Ev.pure (by intro c h; cases h) fun e ρc ok hE hs => by
    have hp := hx e _ (hs x (by simp [Op.operands]))
    rw [Rep] at hp
    obtain ⟨a1, a2, b, hb, hpv, _⟩ := hp
    obtain ⟨b', k1, k2, k3⟩ := ok.objs j _ (hE j _ hj (fun n e => by cases e))
    rw [hb] at k1; cases k1
    have hrun := run_convert_bytes_back (P := P) e.w src dst et ⟨b, 0, none⟩ cap l hsr he hds (fun m hm => by
      rw [Addr.add_lit]
      unfold World.cell?; simp only [k2, markO]
      simpa using hc m hm)
    refine ⟨.string ⟨l.toArray⟩, ?_, by rw [Rep]⟩
    simp [execOp, hpv, hrun]
end ev
end
theorem short_t {p : Ply} (h : shB p = true) : APure Tryz.prog 19 [plA p] (B true) := by have q := short_pure p; rw [h] at q; exact q
theorem short_f {p : Ply} (h : shB p = false) : APure Tryz.prog 19 [plA p] (B false) := by have q := short_pure p; rw [h] at q; exact q
theorem pl_t {p : Ply} (hs : shB p = true) (h : plOK p = true) : APure Tryz.prog 22 [plA p] (B true) := by have q := rplay_pure p (shB_len hs).1 (shB_len hs).2.1 (shB_len hs).2.2.1 (shB_len hs).2.2.2; rw [h] at q; exact q
theorem pl_f {p : Ply} (hs : shB p = true) (h : plOK p = false) : APure Tryz.prog 22 [plA p] (B false) := by have q := rplay_pure p (shB_len hs).1 (shB_len hs).2.1 (shB_len hs).2.2.1 (shB_len hs).2.2.2; rw [h] at q; exact q
theorem print_t {p : Ply} (hs : shB p = true) (h : plOK p = true) : APure Tryz.prog 51 [plA p] (.tup [S (textS p), I 0]) := xprint_ok (shB_len hs).1 (shB_len hs).2.1 (shB_len hs).2.2.1 (shB_len hs).2.2.2 h
theorem dig_lem {u : UInt8} {d : Int} (hd : 0 ≤ d ∧ d ≤ 9) (h1 : 48 ≤ (u.toNat : Int)) (h2 : (u.toNat : Int) ≤ 57) (h3 : ¬ (u.toNat : Int) - 48 = d) : isD u = true ∧ isD (UInt8.ofNat (48 + d).toNat) = true ∧ u ≠ UInt8.ofNat (48 + d).toNat := by
  have e : (UInt8.ofNat (48 + d).toNat).toNat = (48 + d).toNat := by rw [UInt8.toNat_ofNat']; omega
  exact ⟨(isD_iff _).2 (by omega), (isD_iff _).2 (by omega), fun q => by rw [q] at h3; omega⟩
theorem u8_le (u : UInt8) : (u.toNat : Int) ≤ 255 := by have := u.toNat_lt; omega
theorem less_mslx {i o n m c : Nat} (h : n = m) : Less (.msl i o n c) (.msl i o m c) := by subst h; exact Less.rfl' _
theorem bytesRow_size (s : List UInt8) (cap : Nat) : (bytesRow ⟨s.toArray⟩ cap).size = s.length + (cap - s.length) := by
  simp [bytesRow, ByteArray.size]
theorem mark_at {s : List UInt8} {cap k : Nat} {c : UInt8} {v : Int} (hv : v = (c.toNat : Int)) : ∀ m (h : m < (s.set k c).length), ((bytesRow ⟨s.toArray⟩ cap).setIfInBounds k (.int .u8 v))[m]? = some (.int .u8 ((s.set k c)[m].toNat : Int)) := fun m h => by
  have hm : m < s.length := by simpa using h
  have h0 := bytesRow_at ⟨s.toArray⟩ cap m (by simpa using hm)
  rw [Array.getElem?_setIfInBounds, List.getElem_set]
  by_cases e : k = m
  · subst e
    rw [if_pos rfl, if_pos rfl, if_pos (by rw [bytesRow_size]; omega), hv]
  · rw [if_neg e, if_neg e, h0]; simp
theorem digit_c {v : Int} (h : 48 ≤ v ∧ v ≤ 57) : isD (UInt8.ofNat v.toNat) = true ∧ ((UInt8.ofNat v.toNat).toNat : Int) = v := by
  have e : (UInt8.ofNat v.toNat).toNat = v.toNat := by rw [UInt8.toNat_ofNat']; omega
  refine ⟨(isD_iff _).2 (by omega), by omega⟩
theorem spoilt_a {p : Ply} (k d : Int) (hs : shB p = false) : APure Tryz.prog 12 [plA p, I k, I d] (B true) := by
  refine ap Tryz.func12 (fun e0 he0 => ?_)
  refine wz 3 ?_
  refine kz az (short_f hs) ?_
  refine wz 15 ?_
  refine kz az (known_pure) ?_
  refine wz 1 ?_
  exact rz rfl jz
theorem spoilt_b {p : Ply} (k d : Int) (hs : shB p = true) (hr : plOK p = false) : APure Tryz.prog 12 [plA p, I k, I d] (B true) := by
  refine ap Tryz.func12 (fun e0 he0 => ?_)
  refine wz 3 ?_
  refine kz az (short_t hs) ?_
  refine wz 3 ?_
  refine ky az (pl_f hs hr) ?_
  refine wz 11 ?_
  refine kz az (known_pure) ?_
  refine wz 1 ?_
  exact rz rfl jz
theorem spoilt_c {p : Ply} (k d : Int) (hs : shB p = true) (hr : plOK p = true) (hd : ¬ (0 ≤ d ∧ d ≤ 9)) : APure Tryz.prog 12 [plA p, I k, I d] (B true) := by
  refine ap Tryz.func12 (fun e0 he0 => ?_)
  refine wz 3 ?_
  refine kz az (short_t hs) ?_
  refine wz 3 ?_
  refine ky az (pl_t hs hr) ?_
  refine wz 7 ?_
  refine sz 24 (fun g1_12 g1_12' => ?_) (fun g1_12 g1_12' => ?_)
  ·refine wz 4 ?_
   refine kz az (known_pure) ?_
   refine wz 1 ?_
   exact rz rfl jz
  refine wz 3 ?_
  refine iz (fun c_27 c_27' => ?_) (fun c_27 c_27' => ?_)
  ·refine wz 0 ?_
   refine kz az (known_pure) ?_
   refine wz 1 ?_
   exact rz rfl jz
  exfalso
  omega
theorem spoilt_rng {p : Ply} (k d : Int) (hs : shB p = true) (hr : plOK p = true) (hd : 0 ≤ d ∧ d ≤ 9) (hl : (textS p).length ≤ 400) (ho : ¬ (0 ≤ k ∧ k < ((textS p).length : Int))) : APure Tryz.prog 12 [plA p, I k, I d] (B true) := by
  refine ap Tryz.func12 (fun e0 he0 => ?_)
  refine wz 3 ?_
  refine kz az (short_t hs) ?_
  refine wz 3 ?_
  refine ky az (pl_t hs hr) ?_
  refine wz 7 ?_
  refine sz 24 (fun g1_12 g1_12' => ?_) (fun g1_12 g1_12' => ?_)
  ·exfalso; omega
  refine wz 3 ?_
  refine iz (fun c_27 c_27' => ?_) (fun c_27 c_27' => ?_)
  ·exfalso; omega
  refine wz 1 ?_
  refine kz az (print_t hs hr) ?_
  refine wz 11 ?_
  refine sz 38 (fun g6_2 g6_2' => ?_) (fun g6_2 g6_2' => ?_)
  ·refine wz 27 ?_
   refine kz az (known_pure) ?_
   refine wz 1 ?_
   exact rz rfl jz
  refine wz 6 ?_
  refine sz 44 (fun g6_8 g6_8' => ?_) (fun g6_8 g6_8' => ?_)
  ·refine wz 21 ?_
   refine kz az (known_pure) ?_
   refine wz 1 ?_
   exact rz rfl jz
  exfalso; omega
theorem spoilt_main {p : Ply} (k : Nat) (d : Int) (hs : shB p = true) (hr : plOK p = true) (hd : 0 ≤ d ∧ d ≤ 9) (hl : (textS p).length ≤ 400) (ho : k < (textS p).length) (hu : ((textS p)[k].toNat : Int) ≤ 255)
    (h56 : 48 ≤ ((textS p)[k].toNat : Int) → ((textS p)[k].toNat : Int) ≤ 57 → ¬ ((textS p)[k].toNat : Int) - 48 = d → APure Tryz.prog 52 [S ((textS p).set k (UInt8.ofNat (48 + d).toNat))] (.tup [plA ply0, I 4])) : APure Tryz.prog 12 [plA p, I (k : Int), I d] (B true) := by
  refine ap Tryz.func12 (fun e0 he0 => ?_)
  refine wz 3 ?_
  refine kz az (short_t hs) ?_
  refine wz 3 ?_
  refine ky az (pl_t hs hr) ?_
  refine wz 7 ?_
  refine sz 24 (fun g1_12 g1_12' => ?_) (fun g1_12 g1_12' => ?_)
  ·exfalso; omega
  refine wz 3 ?_
  refine iz (fun c_27 c_27' => ?_) (fun c_27 c_27' => ?_)
  ·exfalso; omega
  refine wz 1 ?_
  refine kz az (print_t hs hr) ?_
  refine wz 17 ?_
  refine sz 44 (fun g6_8 g6_8' => ?_) (fun g6_8 g6_8' => ?_)
  ·exfalso; omega
  refine wz 6 ?_
  refine sz 50 (fun g6_14 g6_14' => ?_) (fun g6_14 g6_14' => ?_)
  ·refine wz 15 ?_
   refine kz az (known_pure) ?_
   refine wz 1 ?_
   exact rz rfl jz
  refine wz 6 ?_
  refine sz 56 (fun g6_20 g6_20' => ?_) (fun g6_20 g6_20' => ?_)
  ·refine wz 9 ?_
   refine kz az (known_pure) ?_
   refine wz 1 ?_
   exact rz rfl jz
  refine wz 8 ?_
  refine iz (fun c_64 c_64' => ?_) (fun c_64 c_64' => ?_)
  ·refine wz 0 ?_
   refine kz az (known_pure) ?_
   refine wz 1 ?_
   exact rz rfl jz
  refine wz 1 ?_
  refine sq_bytes rfl Tryz.underlying9 Tryz.underlying77 Tryz.underlying5 jz fun cap hcap => ?_
  refine wz 6 ?_
  refine sq_ev rfl (ev_less (v' := .ptr 1 k) (ev_index_msl sl77.h jz jz rfl (by rw [bs_size]; omega)) (Less.eq (congrArg (AV.ptr 1) (by omega)))) ?_
  refine sq_store_mark rfl jz jz rfl ty5.h rfl rfl (by rw [bytesRow_size]; omega) ?_
  refine wz 1 ?_
  refine sq_ev rfl (ev_string_mark (l := (textS p).set k (UInt8.ofNat (48 + d).toNat)) Tryz.underlying77 Tryz.underlying5 Tryz.underlying9 (less_mslx (by rw [bs_size, List.length_set])) rfl (mark_at (digit_c (by omega)).2.symm)) ?_
  refine kz az ((h56 (by omega) (by omega) c_64')) ?_
  refine wz 11 ?_
  refine sq_yes rfl rfl jz rfl (ev_call en54.h jz ((samepl_pure ply0 (by decide) (by decide) (by decide) (by decide))) ⟨jz, less_ply0, trivial⟩) ?_
  refine wz 2 ?_
  refine ky az (known_pure) ?_
  refine wz 2 ?_
  exact rz rfl jz
/-- **StemSpoilt.** -/
theorem law12 (p : Ply) (k : Int) (_ : -9223372036854775808 ≤ k) (_ : k ≤ 9223372036854775807) (d : Int) (_ : -9223372036854775808 ≤ d) (_ : d ≤ 9223372036854775807) : APure Tryz.prog 12 [plA p, I k, I d] (B true) := by
  cases hs : shB p with
  | false => exact spoilt_a k d hs
  | true =>
    cases hr : plOK p with
    | false => exact spoilt_b k d hs hr
    | true =>
      by_cases hd : 0 ≤ d ∧ d ≤ 9
      · have hl := St.text_len hr
        by_cases ho : 0 ≤ k ∧ k < ((textS p).length : Int)
        · obtain ⟨m, rfl⟩ : ∃ m : Nat, k = (m : Int) := ⟨k.toNat, by omega⟩
          have hm : m < (textS p).length := Int.ofNat_lt.1 ho.2
          refine spoilt_main m d hs hr hd hl hm (u8_le _) fun h1 h2 h3 => ?_
          have c := dig_lem hd h1 h2 h3
          have hn := St.spoilt hr hm c.1 c.2.1 c.2.2
          have k56 := read_pure ((textS p).set m (UInt8.ofNat (48 + d).toNat))
          unfold readAV at k56
          rw [readE_none (by rw [List.length_set]; exact Nat.not_lt.2 hl) hn] at k56
          exact k56
        · exact spoilt_rng k d hs hr hd hl ho
      · exact spoilt_c k d hs hr hd
end Go.Proofs.YtfmpabgblbbcdaaGreatDoor
