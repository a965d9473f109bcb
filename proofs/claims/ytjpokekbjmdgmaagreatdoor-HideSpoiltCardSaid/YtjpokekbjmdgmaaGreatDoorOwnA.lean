/-
  A part of the proof: conditions: none beyond each theorem's own.
-/
import Derived.Test.YtjpokekbjmdgmaaGreatDoorLogicA
import Derived.Test.YtjpokekbjmdgmaaGreatDoorLogicD
import Derived.Deep.Slices
import Derived.OpenShut
import Derived.Carry
import Derived.Test.YtjpokekbjmdgmaaGreatDoorLogicC
import Derived.IntWalk
import Derived.Test.YtjpokekbjmdgmaaGreatDoorSpecA
import Derived.Test.YtjpokekbjmdgmaaGreatDoorProg
import Derived.KernelRfl
import Derived.Lib.LaidTab
import Derived.Lib.ItoaNum
import Derived.Test.YtjpokekbjmdgmaaGreatDoorWalkD
import Derived.Test.YtjpokekbjmdgmaaGreatDoorWalkA
import Derived.Test.YtjpokekbjmdgmaaGreatDoorWalkE
import Derived.Laws.IdiomStrings
import Derived.Laws.IdiomCopy
import Derived.Test.YtjpokekbjmdgmaaGreatDoorLogicB
import Derived.Test.YtjpokekbjmdgmaaGreatDoorShelf
import Derived.Test.YtjpokekbjmdgmaaGreatDoorWalkB
import Derived.Test.YtjpokekbjmdgmaaGreatDoorWalkC
import Derived.Test.YtjpokekbjmdgmaaGreatDoorRow
set_option linter.all false
set_option maxRecDepth 100000
set_option maxHeartbeats 8000000
namespace Go.Ab
variable [Tabs]
theorem FW_room (r : Option Nat) (n : Nat) : (FW r).room n := fun _ h => by simp [FW] at h
variable {c : Ctx} {Q : AExit → St → Prop} {s : St}
end Go.Ab
namespace Go.Ab
open Go.ChangeShapes Go.WideShapes
variable [Tabs]
theorem env0_ok {w : World} (h : Tabs.is w) (hb : ∀ b, Tabs.blk b → b < w.heap.size) : EnvOK (env0 w) :=
  ⟨fun b hb => by have hb' : w.heap.size ≤ b := hb
                  have : w.heap[b]? = none := by simpa using hb'
                  simp [env0, this], fun i o h => by simp [env0] at h, fun i j b hi => by simp [env0] at hi, fun i b hi => by simp [env0] at hi, h, fun b hk => ⟨hb b hk, fun i hi => by simp [env0] at hi⟩⟩
section
variable {H : Type} {enc : TypeId × Value → H} {P : Program} {w : World} {base : Nat} {spare : Nat → Bool} {held : Bool}
theorem trodAll_stays (hl : laidOutB P = true) {W W' : World} (hheap : ∀ b, b < W.heap.size → W'.heap[b]? = W.heap[b]?) {sp' : Nat → Bool} :
    ∀ {ts : List TypeId} {vs : List Value} {ds : List (DataW H)} {ps : List MemPlace}, (∀ t ∈ ts, P.readableRec t = true ∧ t < P.types.size) → DataW.TrodAll enc P W base (fun _ => true) true ts vs ds ps → (∀ p ∈ ps, p.block < W.heap.size) → (∀ p ∈ ps, sp' p.block = true) →
      DataW.TrodAll enc P W' base sp' true ts vs ds ps
  | [], _, _, _, _, h, _, _ => by
    obtain ⟨rfl, rfl, rfl⟩ := trodAll_nil h
    exact trodAll_mk0
  | t :: ts, _, _, _, ht, h, hlt, hs => by
    obtain ⟨v, vs1, d, ds1, a, b, rfl, rfl, rfl, h1, h2⟩ := trodAll_cons h
    refine trodAll_cons_mk (WideElems.Trod_stays hl (ht t (by simp)).1 (ht t (by simp)).2 h1 (fun p hp => ?_) (fun p hp => hs p (by simp [hp]))) (trodAll_stays hl hheap (fun u hu => ht u (List.mem_cons_of_mem _ hu)) h2 (fun p hp => hlt p (by simp [hp])) (fun p hp => hs p (by simp [hp])))
    have hb := hheap p.block (hlt p (by simp [hp]))
    cases p with
    | cell b o => exact cell?_of_heap hb
    | map b => exact hb
/-- **What a law's row asks of a call that returns true and leaves what it met.** -/
theorem post_true {f : Func} {s : ChangeSpec} {W W' : World} {args : Array Value} {ds gs : List (DataW H)} {before : List MemPlace} {tb : TypeId} (hl : laidOutB P = true) (hread : ∀ t ∈ f.params.toList, P.readableRec t = true ∧ t < P.types.size)
    (hres : f.resultTypes = #[tb]) (htb : P.underlying tb = some .bool) (hvars : s.vars = []) (hspec : (s.fn H ds).results = [.lit (.bool true)] ∧ (s.fn H ds).args = ds ∧ (s.fn H ds).vars = [])
    (hW : DataW.Whole enc P f.params.toList s.vars false W args.toList ds gs before) (hheap : ∀ b, b < W.heap.size → W'.heap[b]? = W.heap[b]?) (hst : Still W W') :
    s.post enc P f false true false false W args (.bool true) W' := by
  have hlt := hW.lt
  have hW0 := hW
  obtain ⟨p, q, h1, h2, rfl, _, _⟩ := hW
  rw [hvars] at h2
  obtain ⟨rfl, rfl⟩ := trodVars_none h2
  simp only [List.append_nil] at hlt
  obtain ⟨e1, e2, e3⟩ := hspec
  refine ⟨ds, [], p ++ [], [], p, [], hW0, ?_, ?_, ?_, ?_, fun h => by cases h⟩
  · rw [List.append_nil, e1, hres]
    exact trodAll_cons_mk (RowKit.shut_bool htb _) trodAll_mk0
  · rw [List.append_nil, e2]
    exact trodAll_stays hl hheap hread h1 hlt (fun p hp => by simpa using hlt p hp)
  · rw [List.append_nil, e3, hvars]; rfl
  · refine ⟨hst.1, hst.2, fun i hi => ?_⟩
    rw [hheap i hi]
    split <;> simp_all
theorem APure.law {f : FuncId} {args : List AV} {W : World} {vs : Array Value} (hc : APure P f args (.raw (.bool true))) (ht : Tabs.is W) (hb : ∀ b, Tabs.blk b → b < W.heap.size) (hr : RepL (env0 W) args vs.toList) :
    Calls P f vs W fun x W' => x = .returned (.bool true) ∧ (∀ b, b < W.heap.size → W'.heap[b]? = W.heap[b]?) ∧ Still W W' := by
  refine ((hc (env0 W) vs (env0_ok ht hb) hr).calls (fun k => FW_room none k)).mono ?_
  rintro x w' ⟨u, e', rfl, rfl, hx, hu⟩
  rw [Rep] at hu; subst hu
  exact ⟨rfl, hx.heap, hx.still⟩
end
end Go.Ab
namespace Go.Ab
variable [Tabs]
section seq
variable {c : Ctx} {ops : Array Oper} {Q : AExit → St → Prop} {rest : List Oper} {s : St} {i : Nat}
variable {d : Option Tmp} {op : Op} {t : TypeId} {p : String} {af : Array Edge}
end seq
section cond
variable {c : Ctx} {Q : AExit → St → Prop} {s : St} {x : Operand} {y z : Code}
end cond
section split
variable {c : Ctx} {ops : Array Oper} {Q : AExit → St → Prop} {s : St} {i : Nat} {l : List Oper}
end split
section draw
variable {c : Ctx} {H0 : List AObj} {ops : Array Oper} {Q : AExit → St → Prop} {m i : Nat} {s : St} {rest : List Oper}
variable {d : Option Tmp} {op : Op} {t : TypeId} {p : String} {af : Array Edge}
end draw
section ex
variable {c : Ctx} {Q : AExit → St → Prop} {K : St → Prop} {s : St} {id j : Nat}
end ex
section app
variable {c : Ctx} {ops : Array Oper} {Q : AExit → St → Prop} {s : St} {i : Nat} {o : Oper} {l m : List Oper} {H0 : List AObj} {k : Nat}
end app
theorem W (n : Nat) {p q : Prop} (k : q) (h : Cnt n → (Unit → q) → p := by
  intro hc hk
  repeat (
    replace hc := Cnt.pred hc
    repeat (with_reducible (first | refine xn ?_ | refine sa ?_ | refine sa0 ?_ | refine aw_seq ?_ | refine aw_region ?_ | refine sq_nil ?_ | refine aw_skip ?_ | refine aw_block ?_ | refine bn ?_ | refine aw_exit ?_ | refine xe ?_ | refine be ?_ | refine bo ?_ | refine gn ?_ | refine ge ?_ | refine xr ?_ | refine br ?_ | refine gr ?_ | refine aw_label ?_ | refine aw_scope ?_))
    first
    | ((with_reducible apply sq_ev); exact rfl; exact EV)
    | ((with_reducible apply sn1); exact rfl; exact rfl; exact GD J; exact rfl)
    | ((with_reducible apply sn0); exact rfl; exact rfl; exact GD J; exact rfl)
    | ((with_reducible apply sq_yes); exact rfl; exact rfl; exact GD J; exact rfl; exact EV)
    | ((with_reducible apply su); exact rfl; exact rfl; exact J; exact rfl)
    | ((with_reducible apply sq_box); exact rfl; exact J; exact rfl)
    | ((with_reducible apply sq_alloc); exact rfl; exact ZeO.h)
    | ((with_reducible apply sq_store); exact rfl; exact J; exact J; exact rfl; exact rfl; exact TyF.h; exact rfl; exact rfl)
    | ((with_reducible refine aw_true ?_ ?_); exact GD J)
    | ((with_reducible refine aw_false ?_ ?_); exact GD J))
  repeat (with_reducible (first | refine xn ?_ | refine sa ?_ | refine sa0 ?_ | refine aw_seq ?_ | refine aw_region ?_ | refine sq_nil ?_ | refine aw_skip ?_ | refine aw_block ?_ | refine bn ?_ | refine aw_exit ?_ | refine xe ?_ | refine be ?_ | refine bo ?_ | refine gn ?_ | refine ge ?_ | refine xr ?_ | refine br ?_ | refine gr ?_ | refine aw_label ?_ | refine aw_scope ?_ | refine aw_ret ?_))
  exact hk ()) : p := h ⟨⟩ fun _ => k
end Go.Ab
namespace Hd
open Go Go.Ab Ni
theorem cut_app {c : UInt8} : ∀ {w r : List UInt8}, c ∉ w → cut c (w ++ c :: r) = w :: cut c r
  | [], r, _ => by simp [cut]
  | b :: w, r, h => by
    rw [List.cons_append, cut, if_neg (fun e => h (by simp [e])), cut_app (fun k => h (List.mem_cons_of_mem _ k))]
theorem cut_out {c : UInt8} : ∀ {ls : List (List UInt8)} {r : List UInt8}, (∀ l ∈ ls, c ∉ l) → cut c ((ls.map fun l => l ++ [c]).flatten ++ r) = ls ++ cut c r
  | [], r, _ => by simp
  | l :: ls, r, h => by
    have e : ((l :: ls).map fun l => l ++ [c]).flatten ++ r = l ++ c :: ((ls.map fun l => l ++ [c]).flatten ++ r) := by simp
    rw [e, cut_app (h l (by simp)), cut_out (fun y hy => h y (List.mem_cons_of_mem _ hy))]; rfl
theorem cut_ne (c : UInt8) (l : List UInt8) : cut c l ≠ [] := fun e => by have := (cut_len c l).2; rw [e] at this; simp at this
theorem numO_not {d : Nat} {w : List UInt8} {n : Int} (h : numO d w = some n) {c : UInt8} (hc : isD c = false) : c ∉ w := fun k => by
  have := List.all_eq_true.1 (numO_facts h).1 c k
  rw [hc] at this; cases this
theorem sayd_of {w : List UInt8} {n : Int} (h : numO 4 w = some n) : Sayd n := by unfold Sayd; rw [numO_word h]; exact h
theorem words_not {l : List Int} (h : ∀ n ∈ l, Sayd n) {c : UInt8} (hc : isD c = false) : ∀ w ∈ wordsOf l, c ∉ w := fun w hw => by
  obtain ⟨n, hn, rfl⟩ := List.mem_map.1 hw
  exact numO_not (h n hn) hc
theorem kinds_not {l : List Int} {c : UInt8} (h1 : c ∉ wAlo) (h2 : c ∉ wAcr) : ∀ w ∈ l.map kdW, c ∉ w := fun w hw => by
  obtain ⟨k, _, rfl⟩ := List.mem_map.1 hw
  unfold kdW; split <;> assumption
theorem mem_pre {c : UInt8} (hc : c ≠ 32) {ws : List (List UInt8)} {w : List UInt8} (h : c ∉ w) (k : ∀ x ∈ ws, c ∉ x) : c ∉ w ++ preL ws := fun hm => by
  rcases List.mem_append.1 hm with hm | hm
  · exact h hm
  · obtain ⟨y, hy, hm⟩ := List.mem_flatten.1 hm
    obtain ⟨x, hx, rfl⟩ := List.mem_map.1 hy
    rcases List.mem_cons.1 hm with hm | hm
    · exact hc hm
    · exact k x hx hm
theorem lines_not {r : Rg} (td : TdR r) : ∀ l ∈ linesR r, (10 : UInt8) ∉ l := fun l hl => by
  unfold linesR at hl
  rcases List.mem_cons.1 hl with rfl | hl
  · unfold lnReg; rw [join_eq]; exact mem_pre (by decide) (by decide) (words_not td.head (by decide))
  · rcases List.mem_cons.1 hl with rfl | hl
    · unfold lnMea; rw [join_eq]; exact mem_pre (by decide) (by decide) (kinds_not (by decide) (by decide))
    · obtain ⟨h, hh, rfl⟩ := List.mem_map.1 hl
      unfold lnHid; rw [join_eq]; exact mem_pre (by decide) (by decide) (words_not (td.hide h hh) (by decide))
def endL (c : Int) : List UInt8 := [101, 110, 100, 32] ++ digs3 c
theorem itoa_not {n : Int} (h : 0 ≤ n ∧ n ≤ 1399) {c : UInt8} (hc : isD c = false) : c ∉ Lib.itoa n := numO_not (itoa_four h).1 hc
theorem end_not {c : Int} (h : 0 ≤ c ∧ c ≤ 999) : (10 : UInt8) ∉ endL c := by
  have a1 := itoa_not (n := c / 100) (by omega) (c := 10) (by decide)
  have a2 := itoa_not (n := c / 10 % 10) (by omega) (c := 10) (by decide)
  have a3 := itoa_not (n := c % 10) (by omega) (c := 10) (by decide)
  unfold endL digs3
  simp [a1, a2, a3]
theorem seal_cut {ls : List (List UInt8)} (h : ∀ l ∈ ls, (10 : UInt8) ∉ l) : cut 10 (sealR ls) = ls ++ [endL (ctT ls ls.length % 199), []] := by
  have e : sealR ls = (ls.map fun l => l ++ [10]).flatten ++ (endL (ctT ls ls.length % 199) ++ 10 :: []) := by
    unfold sealR outT endL; rw [List.take_length]; simp
  rw [e, cut_out h, cut_app (end_not (by omega))]; rfl
theorem outlen {ls : List (List UInt8)} {B : Nat} (h : ∀ l ∈ ls, l.length ≤ B) : ((ls.map fun l => l ++ [10]).flatten).length ≤ (B + 1) * ls.length := by
  induction ls with
  | nil => simp
  | cons w ws ih =>
    have h1 := h w (by simp)
    have h2 := ih (fun x hx => h x (List.mem_cons_of_mem _ hx))
    simp only [List.map_cons, List.flatten_cons, List.length_append, List.length_cons, Nat.mul_add]
    simp only [List.length_nil]
    omega
theorem text_len {r : Rg} (h : rgOK r = true) : (textR r).length ≤ 300 := by
  have B := rgOK_B h
  have h2 := B.nh
  have e : textR r = lnReg r ++ 10 :: (lnMea r ++ 10 :: ((((r.hides.map lnHid).map fun l => l ++ [10]).flatten) ++ ([101, 110, 100, 32] ++ (digs3 (ctT (linesR r) (linesR r).length % 199) ++ [10])))) := by
    unfold textR sealR outT; rw [List.take_length]; simp [linesR]
  have h3 := outlen (hid_len h)
  rw [List.length_map] at h3
  have h4 : (digs3 (ctT (linesR r) (linesR r).length % 199)).length ≤ 12 := by
    unfold digs3; simp only [List.length_append]
    have a1 := (itoa_four (n := ctT (linesR r) (linesR r).length % 199 / 100) (by omega)).2
    have a2 := (itoa_four (n := ctT (linesR r) (linesR r).length % 199 / 10 % 10) (by omega)).2
    have a3 := (itoa_four (n := ctT (linesR r) (linesR r).length % 199 % 10) (by omega)).2
    omega
  have a := reg_len (ok_td h)
  have b := mea_len h
  rw [e]
  generalize (((r.hides.map lnHid).map fun l => l ++ [10]).flatten) = F at h3 ⊢
  simp only [List.length_append, List.length_cons, List.length_nil]
  omega
theorem cut_set {n c : UInt8} (hc : c ≠ n) : ∀ (t : List UInt8) (k : Nat) (h : k < t.length), t[k] ≠ n → ∃ i j x, (cut n t)[i]? = some x ∧ x[j]? = some t[k] ∧ cut n (t.set k c) = (cut n t).set i (x.set j c)
  | [], k, h, _ => by simp at h
  | b :: l, 0, h, hb => by
    have hb : b ≠ n := hb
    cases hy : cut n l with
    | nil => exact absurd hy (cut_ne n l)
    | cons y ys =>
      refine ⟨0, 0, b :: y, ?_, ?_, ?_⟩
      · rw [cut, if_neg hb, hy]; rfl
      · rfl
      · rw [List.set_cons_zero, cut, if_neg hc, cut, if_neg hb, hy]; rfl
  | b :: l, k + 1, h, hb => by
    obtain ⟨i, j, x, h1, h2, h3⟩ := cut_set hc l k (by simpa using h) (by simpa using hb)
    rw [List.set_cons_succ]
    by_cases e : b = n
    · refine ⟨i + 1, j, x, ?_, by simpa using h2, ?_⟩
      · rw [cut, if_pos e]; simpa using h1
      · rw [cut, if_pos e, cut, if_pos e, h3]; rfl
    · cases hy : cut n l with
      | nil => exact absurd hy (cut_ne n l)
      | cons y ys =>
        rw [hy] at h1 h3
        rcases i with _ | i
        · simp only [List.getElem?_cons_zero, Option.some.injEq] at h1
          subst h1
          refine ⟨0, j + 1, b :: y, ?_, by simpa using h2, ?_⟩
          · rw [cut, if_neg e, hy]; rfl
          · rw [cut, if_neg e, cut, if_neg e, h3, hy]; rfl
        · refine ⟨i + 1, j, x, ?_, by simpa using h2, ?_⟩
          · rw [cut, if_neg e, hy]; simpa using h1
          · rw [cut, if_neg e, cut, if_neg e, h3, hy]; rfl
theorem csT_s (m : Int) (l : List UInt8) (k : Nat) : csT m l (k + 1) = csT m l k + ((l.getD k 0).toNat : Int) * ((k : Int) + 1) * m := by simp [csT, List.range_succ]
theorem getD_setj {α : Type} {l : List α} {j : Nat} (hj : j < l.length) (c d : α) (k : Nat) : (l.set j c).getD k d = if k = j then c else l.getD k d := by
  simp only [List.getD_eq_getElem?_getD, List.getElem?_set]
  by_cases e : k = j
  · subst e; simp [hj]
  · rw [if_neg (fun h => e h.symm), if_neg e]
theorem csT_set {m : Int} {l : List UInt8} {j : Nat} {c : UInt8} (hj : j < l.length) : ∀ k, csT m (l.set j c) k = csT m l k + (if j < k then ((c.toNat : Int) - (l.getD j 0).toNat) * ((j : Int) + 1) * m else 0)
  | 0 => by simp [csT]
  | k + 1 => by
    rw [csT_s, csT_s, csT_set hj k, getD_setj hj]
    by_cases e : k = j
    · subst e
      rw [if_pos rfl, if_neg (by omega), if_pos (by omega), Int.sub_mul, Int.sub_mul]; omega
    · rw [if_neg e]
      by_cases h : j < k
      · rw [if_pos h, if_pos (by omega)]; omega
      · rw [if_neg h, if_neg (by omega)]; omega
theorem csL_set {m : Int} {l : List UInt8} {j : Nat} {c : UInt8} (hj : j < l.length) : csL m (l.set j c) = csL m l + ((c.toNat : Int) - (l.getD j 0).toNat) * ((j : Int) + 1) * m := by
  unfold csL; rw [List.length_set, csT_set hj, if_pos hj]
theorem ctT_s (ls : List (List UInt8)) (i : Nat) : ctT ls (i + 1) = ctT ls i + csL ((i : Int) + 1) (ls.getD i []) := by simp [ctT, List.range_succ]
theorem ctT_set {ls : List (List UInt8)} {i : Nat} {x : List UInt8} (hi : i < ls.length) : ∀ n, ctT (ls.set i x) n = ctT ls n + (if i < n then csL ((i : Int) + 1) x - csL ((i : Int) + 1) (ls.getD i []) else 0)
  | 0 => by simp [ctT]
  | n + 1 => by
    rw [ctT_s, ctT_s, ctT_set hi n, getD_setj hi]
    by_cases e : n = i
    · subst e
      rw [if_pos rfl, if_neg (by omega), if_pos (by omega)]; omega
    · rw [if_neg e]
      by_cases h : i < n
      · rw [if_pos h, if_pos (by omega)]; omega
      · rw [if_neg h, if_neg (by omega)]; omega
theorem digs_val : ∀ c : Fin 199, valN (digs3 (c.val : Int)) = (c.val : Int) := by decide +kernel
theorem endL_inj {a b : Int} (ha : 0 ≤ a ∧ a < 199) (hb : 0 ≤ b ∧ b < 199) (h : endL a = endL b) : a = b := by
  have h := List.append_cancel_left h
  have h1 := digs_val ⟨a.toNat, by omega⟩
  have h2 := digs_val ⟨b.toNat, by omega⟩
  rw [show ((⟨a.toNat, by omega⟩ : Fin 199).val : Int) = a from (by simp; omega)] at h1
  rw [show ((⟨b.toNat, by omega⟩ : Fin 199).val : Int) = b from (by simp; omega)] at h2
  rw [← h1, ← h2, h]
theorem no199 : ∀ a : Fin 10, ∀ b : Fin 50, ∀ d : Fin 8, a.val ≠ 0 → (a.val * (b.val + 1) * (d.val + 1)) % 199 ≠ 0 := by decide +kernel
theorem not199 {D : Int} {j i : Nat} (hD : D ≠ 0) (h1 : -9 ≤ D) (h2 : D ≤ 9) (hj : j < 50) (hi : i < 8) : ¬ (D * ((j : Int) + 1) * ((i : Int) + 1)) % 199 = 0 := fun h => by
  have hd : (199 : Int) ∣ D * ((j : Int) + 1) * ((i : Int) + 1) := Int.dvd_of_emod_eq_zero h
  have hn := Int.natAbs_dvd_natAbs.2 hd
  rw [Int.natAbs_mul, Int.natAbs_mul] at hn
  have e1 : ((j : Int) + 1).natAbs = j + 1 := by omega
  have e2 : ((i : Int) + 1).natAbs = i + 1 := by omega
  rw [e1, e2] at hn
  exact no199 ⟨D.natAbs, by omega⟩ ⟨j, hj⟩ ⟨i, hi⟩ (by simp only; omega) (Nat.mod_eq_zero_of_dvd hn)
theorem allO_mem {α β : Type} {f : α → Option β} {ws : List α} {q : List β} (h : allO f ws = some q) {x : β} (hx : x ∈ q) : ∃ w ∈ ws, f w = some x := by
  obtain ⟨h1, h2⟩ := allO_inv h
  obtain ⟨i, hi, rfl⟩ := List.getElem_of_mem hx
  exact ⟨ws[i], List.getElem_mem (by omega), h2 i hi (by omega)⟩
theorem numsR_td {row : List UInt8} {l : List Int} (h : numsR row = some l) : ∀ n ∈ l, Sayd n := fun n hn => by
  obtain ⟨w, _, hw⟩ := allO_mem h hn
  exact sayd_of hw
theorem rows_td {s : List UInt8} {r : Rg} (h : rowsR s = some r) : TdR r := by
  unfold rowsR at h
  split at h
  · split at h
    · split at h
      · rename_i l k hs hl hk hh
        cases h
        refine ⟨fun n hn => ?_, fun q hq => ?_, fun x hx n hn => ?_⟩
        · unfold headO at hl
          split at hl
          · rename_i l2 h2
            split at hl
            · rename_i h6
              cases hl
              obtain ⟨a, b, c, d, e, f, rfl⟩ := six h6
              exact numsR_td h2 n (by simpa [l6, rg6] using hn)
            · cases hl
          · cases hl
        · obtain ⟨w, _, hw⟩ := allO_mem hk hq
          exact (kdO_V hw).2.2
        · obtain ⟨w, _, hw⟩ := allO_mem hh hx
          exact numsR_td hw n hn
      · cases h
    · cases h
  · cases h
/-- **A text of which one digit was changed is no text.** -/
theorem spoilt {b : Rg} (ok : rgOK b = true) {k : Nat} (hk : k < (textR b).length) {c : UInt8} (hd : isD (textR b)[k] = true) (hc : isD c = true) (hne : (textR b)[k] ≠ c) : parseR ((textR b).set k c) = none := by
  have td := ok_td ok
  obtain ⟨hlp, hll⟩ := ok_lines ok
  cases hq : parseR ((textR b).set k c) with
  | none => rfl
  | some q =>
    exfalso
    unfold parseR at hq
    cases h0 : rowsR ((textR b).set k c) with
    | none => rw [h0] at hq; cases hq
    | some q' =>
      rw [h0] at hq
      simp only at hq
      split at hq
      · rename_i hs
        simp only [Option.some.injEq] at hq
        subst hq
        have tq := rows_td h0
        have cp := seal_cut (lines_not td)
        have cq := seal_cut (lines_not tq)
        change cut 10 (textR b) = _ at cp
        change cut 10 (textR q') = _ at cq
        have h10 : (textR b)[k] ≠ 10 := fun e => by rw [e] at hd; revert hd; decide
        have c10 : c ≠ 10 := fun e => by rw [e] at hc; revert hc; decide
        obtain ⟨i, j, x, g1, g2, g3⟩ := cut_set c10 (textR b) k hk h10
        rw [← hs, cq, cp] at g3
        rw [cp] at g1
        have hj : j < x.length := (List.getElem?_eq_some_iff.1 g2).1
        have hxj : x.getD j 0 = (textR b)[k] := by rw [List.getD_eq_getElem?_getD, g2]; rfl
        have rp : 0 ≤ ctT (linesR b) (linesR b).length % 199 ∧ ctT (linesR b) (linesR b).length % 199 < 199 := by omega
        have rq : 0 ≤ ctT (linesR q') (linesR q').length % 199 ∧ ctT (linesR q') (linesR q').length % 199 < 199 := by omega
        have b1 := (isD_iff _).1 hd
        have b2 := (isD_iff _).1 hc
        rcases Nat.lt_trichotomy i (linesR b).length with hi | hi | hi
        · rw [List.set_append_left _ _ hi] at g3
          rw [List.getElem?_append_left hi] at g1
          obtain ⟨e1, e2⟩ := List.append_inj' g3 rfl
          have e2 := List.cons.inj e2 |>.1
          have e3 := endL_inj rq rp e2
          have hxm : x ∈ linesR b := List.mem_of_getElem? g1
          have hxl := hll x hxm
          have hxd : (linesR b).getD i [] = x := by rw [List.getD_eq_getElem?_getD, g1]; rfl
          rw [e1, List.length_set, ctT_set hi, if_pos hi, hxd, csL_set hj, hxj] at e3
          refine not199 (D := (c.toNat : Int) - ((textR b)[k]).toNat) (j := j) (i := i) ?_ (by omega) (by omega) (by omega) (by omega) (by omega)
          intro e
          exact hne (UInt8.toNat_inj.1 (by omega))
        · subst hi
          rw [List.set_append_right _ _ (Nat.le_refl _), Nat.sub_self] at g3
          rw [List.getElem?_append_right (Nat.le_refl _), Nat.sub_self] at g1
          obtain ⟨e1, e2⟩ := List.append_inj' g3 rfl
          simp only [List.getElem?_cons_zero, Option.some.injEq] at g1
          simp only [List.set_cons_zero, List.cons.injEq, and_true] at e2
          rw [e1, g1] at e2
          have := congrArg (fun l : List UInt8 => l[j]?) e2
          simp only [List.getElem?_set_self hj] at this
          rw [g2] at this
          exact hne (Option.some.inj this)
        · rw [List.getElem?_append_right (by omega)] at g1
          obtain ⟨d, hd'⟩ : ∃ d, i - (linesR b).length = d + 1 := ⟨i - (linesR b).length - 1, by omega⟩
          rw [hd'] at g1
          rcases d with _ | d
          · simp only [List.getElem?_cons_succ, List.getElem?_cons_zero, Option.some.injEq] at g1
            subst g1; simp at hj
          · simp at g1
      · cases hq
end Hd
namespace Go.Proofs.YtjpokekbjmdgmaaGreatDoor
open Go Go.Ab Ni Hd
theorem rin_pure (n lo hi : Int) : APure Tryz.prog 74 [I n, I lo, I hi] (B (inn n lo hi)) := by
  refine ap Tryz.func74 (fun e0 he0 => ?_)
  refine wz 5 ?_
  refine sz 10 (fun g1 g1' => ?_) (fun g1 g1' => ?_)
  ·refine wz 5 ?_
   exact rz rfl (Less.eq (by simp [inn, *]))
  refine wz 5 ?_
  exact rz rfl (Less.eq (by simp [inn, *]))
end Go.Proofs.YtjpokekbjmdgmaaGreatDoor
namespace Go.Proofs.YtjpokekbjmdgmaaGreatDoor
open Go Go.Ab Ni Hd
def printE (r : Rg) : List UInt8 × Int := if rgOK r = true then (textR r, 0) else ([], 2)
theorem print_pure (r : Rg) (hk : r.kinds.length ≤ 1000000) (hh : r.hides.length ≤ 1000000) (hw : ∀ h ∈ r.hides, h.length ≤ 1000000) : APure Tryz.prog 61 [rgA r] (.tup [S (printE r).1, I (printE r).2]) := by
  refine ap Tryz.func61 (fun e0 he0 => ?_)
  refine wz 4 ?_
  refine kz az (isregister_pure r hk hh hw) ?_
  refine wz 1 ?_
  refine iz (fun c_6 c_6' => ?_) (fun c_6 c_6' => ?_)
  ·have hro : rgOK r = false := by simpa using c_6
   have he : printE r = ([], 2) := by unfold printE; rw [hro]; rfl
   refine wz 2 ?_
   exact retQ_pure (v := .tup [.raw _, .raw _]) rfl rfl (less_tup ⟨Less.eq (by rw [he]), Less.eq (by rw [he]), trivial⟩)
  have hro : rgOK r = true := by simpa using c_6
  have he : printE r = (textR r, 0) := by unfold printE; rw [if_pos hro]
  refine wz 1 ?_
  refine kz az (text_pure (sm_ok hro)) ?_
  refine wz 2 ?_
  exact retQ_pure (v := .tup [.raw _, .raw _]) rfl rfl (less_tup ⟨Less.eq (by rw [he]), Less.eq (by rw [he]), trivial⟩)
end Go.Proofs.YtjpokekbjmdgmaaGreatDoor
namespace Go.Proofs.YtjpokekbjmdgmaaGreatDoor
open Go Go.Ab Ni Hd
instance en121 : EnT Tryz.prog 121 := ⟨Ent.of Tryz.func121 (by kernel_rfl) rfl⟩
instance en64 : EnT Tryz.prog 64 := ⟨Ent.of Tryz.func64 (by kernel_rfl) rfl⟩
def shB (r : Rg) : Bool := decide ((r.kinds.length ≤ 8 ∧ r.hides.length ≤ 8) ∧ ∀ i, (hi : i < r.hides.length) → i < 9 → r.hides[i].length ≤ 10)
theorem shB_fin {r : Rg} (h3 : ∀ i, (hi : i < r.hides.length) → i < 9 → r.hides[i].length ≤ 10) : shB r = (decide (r.kinds.length ≤ 8) && decide (r.hides.length ≤ 8)) := by
  rw [Bool.eq_iff_iff]; unfold shB; simp only [decide_eq_true_eq, Bool.and_eq_true]
  exact ⟨fun h => h.1, fun h => ⟨h, h3⟩⟩
theorem shB_row {r : Rg} {i : Nat} (hi : i < r.hides.length) (h9 : i < 9) (h : ¬ r.hides[i].length ≤ 10) : shB r = false := decide_eq_false fun q => h (q.2 i hi h9)
theorem shB_len {r : Rg} (h : shB r = true) : r.kinds.length ≤ 1000000 ∧ r.hides.length ≤ 1000000 ∧ (∀ h ∈ r.hides, h.length ≤ 1000000) := by
  have q := of_decide_eq_true h
  refine ⟨by omega, by omega, fun x hx => ?_⟩
  obtain ⟨i, hi, rfl⟩ := List.getElem_of_mem hx
  have := q.2 i hi (by omega); omega
theorem rg_kind {r : Rg} {i : Nat} (hi : i < r.kinds.length) (h : kdOK r.kinds[i] = false) : rgOK r = false := by
  have e : r.kinds.all kdOK = false := by rw [List.all_eq_false]; exact ⟨_, List.getElem_mem hi, by rw [h]; simp⟩
  unfold rgOK; rw [e]; simp
theorem rg_hide {r : Rg} {i : Nat} (hi : i < r.hides.length) (h : hdOK r.kinds.length r.hides[i] = false) : rgOK r = false := by
  have e : r.hides.all (hdOK r.kinds.length) = false := by rw [List.all_eq_false]; exact ⟨_, List.getElem_mem hi, by rw [h]; simp⟩
  unfold rgOK; rw [e]; simp
theorem hd_len {w : Nat} {h : List Int} (e : h.length ≠ w) : hdOK w h = false := by unfold hdOK; rw [decide_eq_false e]; rfl
theorem hd_num {w : Nat} {h : List Int} {j : Nat} (hj : j < h.length) (e : inn h[j] 1 500 = false) : hdOK w h = false := by
  have q : (h.all fun n => inn n 1 500) = false := by rw [List.all_eq_false]; exact ⟨_, List.getElem_mem hj, by rw [e]; simp⟩
  unfold hdOK; rw [q]; simp
theorem hd_yes {w : Nat} {h : List Int} (e : h.length = w) (k : ∀ j, (hj : j < h.length) → inn h[j] 1 500 = true) : hdOK w h = true := by
  unfold hdOK; rw [decide_eq_true e, List.all_eq_true.2 fun x hx => by obtain ⟨j, hj, rfl⟩ := List.getElem_of_mem hx; exact k j hj]; rfl
theorem all_of {α : Type} {q : α → Bool} {l : List α} (h : ∀ j, (hj : j < l.length) → q l[j] = true) : l.all q = true := List.all_eq_true.2 fun x hx => by obtain ⟨j, hj, rfl⟩ := List.getElem_of_mem hx; exact h j hj
theorem short_pure (r : Rg) : APure Tryz.prog 20 [rgA r] (B (shB r)) := by
  refine ap Tryz.func20 (fun e0 he0 => ?_)
  refine wz 3 ?_
  refine aw_loopk (ι := { k : Nat // k ≤ r.hides.length ∧ k ≤ 9 ∧ ∀ i, (hi : i < r.hides.length) → i < k → r.hides[i].length ≤ 10 }) [1] (fun i => [(3, I i.1)]) (fun H i => H) (fun i => r.hides.length - i.1) (⟨0, Nat.zero_le _, by omega, by omega⟩) ⟨jz, jz, trivial⟩ rfl ?_
  rintro ⟨k, hk, hk9, hok⟩
  refine nz ?_
  refine wz 6 ?_
  refine sz 9 (fun g2_5 g2_5' => ?_) (fun g2_5 g2_5' => ?_)
  ·have hkl : k < r.hides.length := by omega
   refine wz 3 ?_
   refine iz (fun c_12 c_12' => ?_) (fun c_12 c_12' => ?_)
   ·have hk9b : k < 9 := by have := of_decide_eq_true c_12; omega
    refine wz 7 ?_
    refine iz (fun c_21 c_21' => ?_) (fun c_21 c_21' => ?_)
    ·have hbad := shB_row hkl hk9b (by omega)
     refine wz 1 ?_
     exact rz rfl (Less.eq (by rw [hbad]))
    refine wz 3 ?_
    exact ⟨⟨k + 1, by omega, by omega, fun i hi h => (by by_cases e : i = k; (subst e; omega); exact hok i hi (by omega))⟩, by simp only; omega, Sub.slots ⟨jz, jz, trivial⟩⟩
   refine wz 5 ?_
   refine sz 26 (fun g6_4 g6_4' => ?_) (fun g6_4 g6_4' => ?_)
   ·refine wz 6 ?_
    exact rz rfl (Less.eq (congrArg B (by have h9 := of_decide_eq_false c_12; rw [shB_fin (fun i hi h8 => hok i hi (by omega)), Bool.eq_iff_iff]; simp; omega)))
   refine wz 6 ?_
   exact rz rfl (Less.eq (congrArg B (by have h9 := of_decide_eq_false c_12; rw [shB_fin (fun i hi h8 => hok i hi (by omega)), Bool.eq_iff_iff]; simp; omega)))
  obtain rfl : k = r.hides.length := by omega
  refine wz 9 ?_
  refine sz 26 (fun g6_4 g6_4' => ?_) (fun g6_4 g6_4' => ?_)
  ·refine wz 6 ?_
   exact rz rfl (Less.eq (congrArg B (by rw [shB_fin (fun i hi _ => hok i hi hi), Bool.eq_iff_iff]; simp; omega)))
  refine wz 6 ?_
  exact rz rfl (Less.eq (congrArg B (by rw [shB_fin (fun i hi _ => hok i hi hi), Bool.eq_iff_iff]; simp; omega)))
theorem rspan_pure (a b : Int) (ha : -1000000 ≤ a ∧ a ≤ 1000000 ∨ True) : APure Tryz.prog 75 [.agg [I a, I b]] (B (spOK a b)) := by
  refine ap Tryz.func75 (fun e0 he0 => ?_)
  refine vz 2 ?_
  refine sq_nil ?_
  refine aw_seq ?_
  have hin : ∀ x lo hi : Int, inn x lo hi = true ↔ lo ≤ x ∧ x ≤ hi := fun x lo hi => by unfold inn; simp
  refine wz 2 ?_
  refine kz az (rin_pure _ _ _) ?_
  refine wz 1 ?_
  refine sz 6 (fun g1_3 g1_3' => ?_) (fun g1_3 g1_3' => ?_)
  ·have h1 := (hin _ _ _).1 g1_3
   refine wz 4 ?_
   refine ky az (rin_pure _ _ _) ?_
   refine wz 2 ?_
   refine sz 13 (fun g1_10 g1_10' => ?_) (fun g1_10 g1_10' => ?_)
   ·have h2 := (hin _ _ _).1 g1_10
    refine wz 8 ?_
    exact rz rfl (Less.eq (by unfold spOK; simp [*]))
   refine wz 8 ?_
   exact rz rfl (Less.eq (by unfold spOK; simp [*]))
  refine wz 15 ?_
  exact rz rfl (Less.eq (by unfold spOK; simp [*]))
theorem register_pure (r : Rg) (hk : r.kinds.length ≤ 1000000) (hh : r.hides.length ≤ 1000000) (hw : ∀ h ∈ r.hides, h.length ≤ 1000000) : APure Tryz.prog 21 [rgA r] (B (rgOK r)) := by
  refine ap Tryz.func21 (fun e0 he0 => ?_)
  refine wz 5 ?_
  refine kz az (rin_pure _ _ _) ?_
  refine wz 2 ?_
  refine sz 11 (fun g1_5 g1_5' => ?_) (fun g1_5 g1_5' => ?_)
  ·refine wz 8 ?_
   exact rz rfl (Less.eq (by unfold rgOK; simp_all))
  refine wz 3 ?_
  refine ky az (rin_pure _ _ _) ?_
  refine wz 2 ?_
  refine iz (fun c_17 c_17' => ?_) (fun c_17 c_17' => ?_)
  ·refine wz 1 ?_
   exact rz rfl (Less.eq (by unfold rgOK; simp_all))
  refine wz 1 ?_
  refine aw_loopk (ι := { k : Nat // k ≤ r.kinds.length ∧ ∀ i, (hi : i < r.kinds.length) → i < k → kdOK r.kinds[i] = true }) [1] (fun i => [(3, I i.1)]) (fun H i => H) (fun i => r.kinds.length - i.1) (⟨0, Nat.zero_le _, by omega⟩) ⟨jz, jz, trivial⟩ rfl ?_
  rintro ⟨k, hkk, hok⟩
  refine nz ?_
  refine wz 5 ?_
  refine iz (fun c_22 c_22' => ?_) (fun c_22 c_22' => ?_)
  ·have hkl : k < r.kinds.length := by omega
   refine wz 7 ?_
   refine sz 31 (fun g6_6 g6_6' => ?_) (fun g6_6 g6_6' => ?_)
   ·refine wz 7 ?_
    refine iz (fun c_38 c_38' => ?_) (fun c_38 c_38' => ?_)
    ·have hbad := rg_kind hkl (by unfold kdOK; have h5 := of_decide_eq_true c_38; exact decide_eq_false (by omega))
     refine wz 1 ?_
     exact rz rfl (Less.eq (by rw [hbad]))
    have hkd : kdOK r.kinds[k] = true := by unfold kdOK; have h5 := of_decide_eq_false c_38; exact decide_eq_true (by omega)
    refine wz 3 ?_
    exact ⟨⟨k + 1, by omega, fun i hi h => (by by_cases e : i = k; (subst e; exact hkd); exact hok i hi (by omega))⟩, by simp only; omega, Sub.slots ⟨jz, jz, trivial⟩⟩
   have hkd : kdOK r.kinds[k] = true := by unfold kdOK; exact decide_eq_true (by omega)
   refine wz 11 ?_
   exact ⟨⟨k + 1, by omega, fun i hi h => (by by_cases e : i = k; (subst e; exact hkd); exact hok i hi (by omega))⟩, by simp only; omega, Sub.slots ⟨jz, jz, trivial⟩⟩
  obtain rfl : k = r.kinds.length := by omega
  have hall1 : r.kinds.all kdOK = true := all_of fun j hj => hok j hj hj
  refine wz 1 ?_
  refine aw_loopk (ι := { k : Nat // k ≤ r.hides.length ∧ ∀ i, (hi : i < r.hides.length) → i < k → hdOK r.kinds.length r.hides[i] = true }) [1] (fun i => [(4, I i.1)]) (fun H i => H) (fun i => r.hides.length - i.1) (⟨0, Nat.zero_le _, by omega⟩) ⟨jz, jz, trivial⟩ rfl ?_
  rintro ⟨k, hkh, hok2⟩
  refine nz ?_
  refine wz 5 ?_
  refine iz (fun c_43 c_43' => ?_) (fun c_43 c_43' => ?_)
  ·have hhl : k < r.hides.length := by omega
   have hwl := hw _ (List.getElem_mem hhl)
   refine wz 0 ?_
   refine aw_draw 10 mo (by kernel_rfl) ?_
   refine dz 10 ?_
   refine wz 0 ?_
   refine iz (fun c_55 c_55' => ?_) (fun c_55 c_55' => ?_)
   ·have hbad := rg_hide hhl (hd_len (by omega))
    refine wz 1 ?_
    exact rz rfl (Less.eq (by rw [hbad]))
   have hle : r.hides[k].length = r.kinds.length := by omega
   refine wz 1 ?_
   refine aw_loopk (ι := { j : Nat // j ≤ r.hides[k].length ∧ ∀ i, (hi : i < r.hides[k].length) → i < j → inn r.hides[k][i] 1 500 = true }) [1, 4] (fun u => [(5, I u.1)]) (fun H u => H) (fun u => r.hides[k].length - u.1) (⟨0, Nat.zero_le _, by omega⟩) ⟨jz, jz, jz, trivial⟩ rfl ?_
   rintro ⟨j, hj, hok3⟩
   refine nz ?_
   refine wz 8 ?_
   refine iz (fun c_63 c_63' => ?_) (fun c_63 c_63' => ?_)
   ·have hjl : j < r.hides[k].length := by omega
    refine wz 8 ?_
    refine kz az (rin_pure _ _ _) ?_
    refine wz 1 ?_
    refine iz (fun c_75 c_75' => ?_) (fun c_75 c_75' => ?_)
    ·have hbad := rg_hide hhl (hd_num hjl (by simpa using c_75))
     refine wz 1 ?_
     exact rz rfl (Less.eq (by rw [hbad]))
    have hin : inn r.hides[k][j] 1 500 = true := by simpa using c_75
    refine wz 3 ?_
    exact ⟨⟨j + 1, by omega, fun i hi h => (by by_cases e : i = j; (subst e; exact hin); exact hok3 i hi (by omega))⟩, by simp only; omega, Sub.slots ⟨jz, jz, jz, trivial⟩⟩
   obtain rfl : j = r.hides[k].length := by omega
   refine wz 3 ?_
   exact ⟨⟨k + 1, by omega, fun i hi h => (by by_cases e : i = k; (subst e; exact hd_yes hle fun j hj => hok3 j hj hj); exact hok2 i hi (by omega))⟩, by simp only; omega, Sub.slots ⟨jz, jz, trivial⟩⟩
  obtain rfl : k = r.hides.length := by omega
  have hall2 : r.hides.all (hdOK r.kinds.length) = true := all_of fun j hj => hok2 j hj hj
  refine wz 2 ?_
  refine kz az (rspan_pure _ _ (.inr trivial)) ?_
  refine wz 1 ?_
  refine sz 79 (fun g18_3 g18_3' => ?_) (fun g18_3 g18_3' => ?_)
  ·refine wz 2 ?_
   refine ky az (rspan_pure _ _ (.inr trivial)) ?_
   refine wz 2 ?_
   refine sz 84 (fun g18_8 g18_8' => ?_) (fun g18_8 g18_8' => ?_)
   ·refine wz 2 ?_
    refine ky az (rin_pure _ _ _) ?_
    refine wz 2 ?_
    refine sz 89 (fun g18_13 g18_13' => ?_) (fun g18_13 g18_13' => ?_)
    ·refine wz 2 ?_
     refine ky az (rin_pure _ _ _) ?_
     refine wz 2 ?_
     exact rz rfl (Less.eq (by unfold rgOK; rw [hall1, hall2]; simp_all))
    refine wz 5 ?_
    exact rz rfl (Less.eq (by unfold rgOK; rw [hall1, hall2]; simp_all))
   refine wz 10 ?_
   exact rz rfl (Less.eq (by unfold rgOK; rw [hall1, hall2]; simp_all))
  refine wz 15 ?_
  exact rz rfl (Less.eq (by unfold rgOK; rw [hall1, hall2]; simp_all))
theorem samel_pure (l : List (List Int)) (hl : l.length ≤ 1000000) (hw : ∀ h ∈ l, h.length ≤ 1000000) : APure Tryz.prog 121 [hds l, hds l] (B true) := by
  refine ap Tryz.func121 (fun e0 he0 => ?_)
  refine wz 6 ?_
  refine iz (fun c_10 c_10' => ?_) (fun c_10 c_10' => ?_)
  ·exfalso
   simp at c_10
  refine wz 1 ?_
  refine aw_loopk (ι := { k : Nat // k ≤ l.length }) [0, 1] (fun i => [(5, I i.1)]) (fun H i => H) (fun i => l.length - i.1) (⟨0, Nat.zero_le _⟩) ⟨jz, jz, jz, trivial⟩ rfl ?_
  rintro ⟨k, hk⟩
  refine nz ?_
  refine wz 4 ?_
  refine iz (fun c_14 c_14' => ?_) (fun c_14 c_14' => ?_)
  ·have hkl : k < l.length := by omega
   refine wz 0 ?_
   refine aw_draw 10 mo (by kernel_rfl) ?_
   refine dz 8 ?_
   refine dkz az (same_t (hw _ (List.getElem_mem hkl)) (hw _ (List.getElem_mem hkl)) rfl) ?_
   refine dz 1 ?_
   refine wz 0 ?_
   refine iz (fun c_26 c_26' => ?_) (fun c_26 c_26' => ?_)
   ·exfalso
    simp at c_26
   refine wz 3 ?_
   exact ⟨⟨k + 1, by omega⟩, by simp only; omega, Sub.slots ⟨jz, jz, jz, trivial⟩⟩
  refine wz 1 ?_
  exact rz rfl (Less.eq rfl)
theorem samer_pure (r : Rg) (hk : r.kinds.length ≤ 1000000) (hh : r.hides.length ≤ 1000000) (hw : ∀ h ∈ r.hides, h.length ≤ 1000000) : APure Tryz.prog 64 [rgA r, rgA r] (B true) := by
  refine ap Tryz.func64 (fun e0 he0 => ?_)
  refine wz 9 ?_
  refine sz 11 (fun g1_5 g1_5' => ?_) (fun g1_5 g1_5' => ?_)
  ·exfalso
   first | omega | simp_all
  refine wz 7 ?_
  refine sz 18 (fun g1_12 g1_12' => ?_) (fun g1_12 g1_12' => ?_)
  ·exfalso
   first | omega | simp_all
  refine wz 4 ?_
  refine sq_yes rfl rfl (less_b g1_12) rfl (ev_neq25 jz jz) ?_
  refine wz 2 ?_
  refine sz 25 (fun g1_19 g1_19' => ?_) (fun g1_19 g1_19' => ?_)
  ·exfalso
   first | omega | simp_all
  refine wz 4 ?_
  refine sq_yes rfl rfl (less_b g1_19) rfl (ev_neq25 jz jz) ?_
  refine wz 2 ?_
  refine sz 32 (fun g1_26 g1_26' => ?_) (fun g1_26 g1_26' => ?_)
  ·exfalso
   first | omega | simp_all
  refine wz 8 ?_
  refine iz (fun c_40 c_40' => ?_) (fun c_40 c_40' => ?_)
  ·exfalso
   first | omega | simp_all
  refine wz 1 ?_
  refine aw_loopk (ι := { k : Nat // k ≤ r.kinds.length }) [2, 3] (fun i => [(5, I i.1)]) (fun H i => H) (fun i => r.kinds.length - i.1) (⟨0, Nat.zero_le _⟩) ⟨jz, jz, jz, trivial⟩ rfl ?_
  rintro ⟨k, hkk⟩
  refine nz ?_
  refine wz 5 ?_
  refine iz (fun c_45 c_45' => ?_) (fun c_45 c_45' => ?_)
  ·have hkl : k < r.kinds.length := by omega
   refine wz 0 ?_
   refine aw_draw 11 mo (by kernel_rfl) ?_
   refine dz 11 ?_
   refine wz 0 ?_
   refine iz (fun c_58 c_58' => ?_) (fun c_58 c_58' => ?_)
   ·exfalso
    simp at c_58
   refine wz 3 ?_
   exact ⟨⟨k + 1, by omega⟩, by simp only; omega, Sub.slots ⟨jz, jz, jz, trivial⟩⟩
  refine wz 4 ?_
  refine kz az (samel_pure r.hides hh hw) ?_
  refine wz 1 ?_
  exact rz rfl jz
end Go.Proofs.YtjpokekbjmdgmaaGreatDoor
namespace Go.Proofs.YtjpokekbjmdgmaaGreatDoor
open Go Go.Ab Ni Hd
instance en61 : EnT Tryz.prog 61 := ⟨Ent.of Tryz.func61 (by kernel_rfl) rfl⟩
theorem short_t {r : Rg} (h : shB r = true) : APure Tryz.prog 20 [rgA r] (B true) := by have q := short_pure r; rw [h] at q; exact q
theorem short_f {r : Rg} (h : shB r = false) : APure Tryz.prog 20 [rgA r] (B false) := by have q := short_pure r; rw [h] at q; exact q
theorem reg_t {r : Rg} (hs : shB r = true) (h : rgOK r = true) : APure Tryz.prog 21 [rgA r] (B true) := by have q := register_pure r (shB_len hs).1 (shB_len hs).2.1 (shB_len hs).2.2; rw [h] at q; exact q
theorem reg_f {r : Rg} (hs : shB r = true) (h : rgOK r = false) : APure Tryz.prog 21 [rgA r] (B false) := by have q := register_pure r (shB_len hs).1 (shB_len hs).2.1 (shB_len hs).2.2; rw [h] at q; exact q
theorem print_t {r : Rg} (hs : shB r = true) (h : rgOK r = true) : APure Tryz.prog 61 [rgA r] (.tup [S (textR r), I 0]) := by
  have q := print_pure r (shB_len hs).1 (shB_len hs).2.1 (shB_len hs).2.2
  have e : printE r = (textR r, 0) := by unfold printE; rw [h]; rfl
  rw [e] at q; exact q
end Go.Proofs.YtjpokekbjmdgmaaGreatDoor
namespace Go.Proofs.YtjpokekbjmdgmaaGreatDoor
open Go Go.Ab Ni Hd
instance sl96 : SlE Tryz.prog 96 5 1 := ⟨by kernel_rfl⟩
instance ty5 : TyF Tryz.prog 5 false 1 := ⟨by kernel_rfl⟩
section
variable [Tabs]
def markO (et : TypeId) (cs : Array Value) : Obj := .cells cs et (cs.size, cs.size + 1)
def setMark (e : Env) (i b : Nat) (et : TypeId) (cs : Array Value) : Env := { e with H := e.H.set i (.raw (markO et cs)), w := e.w.setRow b cs }
theorem setMark_T {e : Env} {i b : Nat} {et : TypeId} {o : Obj} {cs : Array Value} (h : e.H[i]? = some (.raw o)) (j : Nat) : (setMark e i b et cs).T j = e.T j := by
  unfold Env.T setMark
  by_cases hj : i = j
  · subst hj
    simp only [List.getElem?_set_self (lt_of_get? h), h, tokOf]
  · simp only [List.getElem?_set_ne hj]
theorem setMark_le {e : Env} (ok : EnvOK e) {i b : Nat} {et : TypeId} {o : Obj} {cs : Array Value} (h : e.H[i]? = some (.raw o)) (hb : e.μ i = some b) (hg : e.G b = 0) : e.Le (setMark e i b et cs) := by
  have hi := lt_of_get? h
  refine ⟨by simp [setMark], fun j _ ht => ⟨by rw [setMark_T h]; exact ht, fun _ hb => hb⟩, fun b' off ho => ⟨ho, ?_⟩, fun j n ht => ⟨n, by rw [setMark_T h]; exact ht, Nat.le_refl _, fun _ => ⟨rfl, fun b' cs' t hm hh => ⟨rfl, cs', ?_, rfl⟩⟩⟩⟩
  · have hne : b' ≠ b := fun e1 => by subst e1; rw [hg] at ho; omega
    exact cell?_of_heap (setRow_other _ _ _ _ hne)
  · have hj : j < e.H.length := by
      rcases Nat.lt_or_ge j e.H.length with k | k
      · exact k
      · unfold Env.T at ht; rw [List.getElem?_eq_none k] at ht; simp [tokOf] at ht
    have hne : b' ≠ b := fun e1 => by
      subst e1
      have := ok.inj i j b' hi hj hb hm
      subst this
      unfold Env.T at ht; rw [h] at ht; simp [tokOf] at ht
    exact (setRow_other _ _ _ _ hne).trans hh
section seq
variable {c : Ctx} {ops : Array Oper} {Q : AExit → St → Prop} {rest : List Oper} {s : St} {i : Nat}
variable {d : Option Tmp} {t : TypeId} {p : String} {af : Array Edge}
theorem setMark_sim {e : Env} {a : Act} (hs : Sim c s e a) {i b : Nat} {et : TypeId} {cs cs0 : Array Value} (h : s.H[i]? = some (.raw (markO et cs0))) (hb : e.μ i = some b) (hg : e.G b = 0)
    (hh : e.w.heap[b]? = some (markO et cs0)) (hsz : cs.size = cs0.size) : Sim c { s with H := s.H.set i (.raw (markO et cs)) } (setMark e i b et cs) a := by
  have h' : e.H[i]? = some (.raw (markO et cs0)) := by rw [hs.H]; exact h
  have hi := lt_of_get? h'
  have le := setMark_le hs.ok (et := et) (cs := cs) h' hb hg
  have hnew : (e.w.setRow b cs).heap[b]? = some (markO et cs) := by
    have := setRow_heap e.w b _ cs _ _ hh
    rw [this, markO, hsz]
  refine ⟨hs.size, fun t => Rep.mono le _ (hs.slots t), hs.defers.mono le, by simp [setMark, hs.H], ⟨fun b' hb' => hs.ok.fresh b' (by simpa [setMark] using hb'), fun j o ho => ?_, fun j k b' hj hk => hs.ok.inj j k b' (by simpa [setMark] using hj) (by simpa [setMark] using hk), fun j b' hj hm => by
    have := hs.ok.live j b' (by simpa [setMark] using hj) hm; simpa [setMark] using this,
    hs.ok.tabs.of (by simp [setMark]) (fun b' _ hn => setRow_other _ _ _ _ fun e1 => by subst e1; exact hn i hi hb) fun j b' hj hm => .inr ⟨j, by simpa [setMark] using hj, hm⟩⟩, ⟨by simpa [setMark] using hs.fr.size, hs.fr.still.trans ⟨rfl, rfl⟩, fun b' hb' hn => ?_, fun j b' hj hm => hs.fr.objs j b' (by simpa [setMark] using hj) hm, hs.fr.le.trans le⟩⟩
  · by_cases hj : i = j
    · subst hj
      simp only [setMark, List.getElem?_set_self hi, Option.some.injEq] at ho
      subst ho
      exact ⟨b, hb, hnew, hg⟩
    · simp only [setMark, List.getElem?_set_ne hj] at ho
      refine ObjSim.mono le (hs.ok.objs j o ho) rfl (fun b' hb' => ⟨setRow_other _ _ _ _ ?_, rfl⟩)
      intro e1; subst e1
      exact hj (hs.ok.inj i j b' hi (lt_of_get? ho) hb hb')
  · obtain ⟨h2, h3⟩ := hs.fr.heap b' hb' hn
    have hne : b' ≠ b := fun e1 => by
      subst e1
      rcases hs.fr.objs i b' hi hb with h4 | ⟨j, hj, h4⟩
      · omega
      · exact hn j hj h4
    exact ⟨(setRow_other _ _ _ _ hne).trans h2, h3⟩
theorem sq_bytes {src dst et : TypeId} {x : Operand} {b : ByteArray} (hd : dOK c.nt d = true) (hsr : c.P.underlying src = some .string) (hds : c.P.underlying dst = some (.slice et)) (he : c.P.underlying et = some (.int .u8))
    (hx : Less (s.op x) (.raw (.string b)))
    (k : ∀ cap, b.size ≤ cap → SeqWP c ops Q (i + 1) rest (St.put { s with H := s.H ++ [.raw (markO et (bytesRow b cap))] } d (.msl s.H.length 0 b.size cap))) :
    SeqWP c ops Q i (⟨d, .convert src dst x, t, p, af, none⟩ :: rest) s := by
  refine sq_op fun e ac hs next hn' => ?_
  have hv := hx e _ (hs.op x)
  rw [Rep] at hv
  have hrun := run_bytes_of_string (P := c.P) e.w src dst et b hsr hds he
  have hle := grownCap_ge e.w b.size 0 et
  generalize grownCap e.w b.size 0 et = cap at hrun hle
  have hs1 := hs.ext (EnvOK.drew hs.ok)
  have hs2 := hs1.push (push_raw hs1.ok (markO et (bytesRow b cap)))
  refine ⟨about_FW _ _ _ _ _, ?_⟩
  show Oper.uponIn (FW c.r) 0 c.P _ ac next (lift c Q) (((Oper.semAt c.r ac.eval ⟨d, .convert src dst x, t, p, af, none⟩)).run c.P e.w)
  rw [semAt_of (by intro c h; cases h)]
  have : (execOp ac.eval ⟨d, .convert src dst x, t, p, af, none⟩).run c.P e.w = .ok (.value (.slice (some ⟨e.w.heap.size, 0, none⟩) b.size cap)) (e.w.drew.alloc (markO et (bytesRow b cap))) := by
    simp [execOp, hv, hrun, Result.andThen, markO]
  rw [this]
  refine hn' _ _ _ (k cap hle) (hs2.put hd ?_)
  rw [Rep]
  refine ⟨?_, ?_, e.w.heap.size, ?_, rfl, hle⟩
  · simp [Env.push, hs.H]
  · simp [Env.T, Env.push, hs.H, tokOf]
  · simp [Env.push, hs.H]
theorem sq_store_mark {st et : TypeId} {x y : Operand} {j off : Nat} {bb : Bool} {v : Value} {cs : Array Value} (hd : dOK c.nt d = true)
    (hx : Less (s.op x) (.ptr j off)) (hy : Less (s.op y) (.raw v)) (hj : s.H[j]? = some (.raw (markO et cs))) (ht : tySz c.P st = some (bb, 1)) (hvc : v.cells = #[v]) (hv1 : isCell v = true) (hle : off < cs.size)
    (k : SeqWP c ops Q (i + 1) rest (St.put { s with H := s.H.set j (.raw (markO et (cs.setIfInBounds off v))) } d .any)) : SeqWP c ops Q i (⟨d, .store st x y, t, p, af, none⟩ :: rest) s := by
  refine sq_op fun e ac hs next hn' => ?_
  have hyv := hy e _ (hs.op y)
  rw [Rep] at hyv
  have hp := hx e _ (hs.op x)
  rw [Rep] at hp
  obtain ⟨a1, a2, b, hb, hpv⟩ := hp
  obtain ⟨b', k1, k2, k3⟩ := hs.ok.objs j _ (by rw [hs.H]; exact hj)
  rw [hb] at k1; cases k1
  have h2 := (run_tyAgg (w := e.w) ht).2
  have h3 := run_storeCells_cells (P := c.P) b off [v] 0 e.w (fun m hm => by
      have : m = 0 := by simpa using hm
      subst this
      unfold World.cell?; simp only [k2, markO]; simp [hle]) (fun m hm => by
      have : m = 0 := by simpa using hm
      subst this
      unfold World.frozen?; simp only [k2, markO]; simp; omega) (fun u hu => by
      have : u = v := by simpa using hu
      subst this; exact hv1)
  simp only [Nat.add_zero] at h3
  have h4 : e.w.setCells b off [v] = e.w.setRow b (cs.setIfInBounds off v) := by
    simp only [World.setCells]
    exact setCell_eq_setRow e.w b off cs et _ v k2
  have hrun : (storeVar st ⟨b, off, none⟩ v).run c.P e.w = .ok () (e.w.setRow b (cs.setIfInBounds off v)) := by
    simp [storeVar, h2, hvc, h3, h4]
  have hsim := setMark_sim hs (cs := cs.setIfInBounds off v) hj hb k3 k2 (by simp)
  refine ⟨about_FW _ _ _ _ _, ?_⟩
  show Oper.uponIn (FW c.r) 0 c.P _ ac next (lift c Q) (((Oper.semAt c.r ac.eval ⟨d, .store st x y, t, p, af, none⟩)).run c.P e.w)
  rw [semAt_of (by intro c h; cases h)]
  have : (execOp ac.eval ⟨d, .store st x y, t, p, af, none⟩).run c.P e.w = .ok .skip (e.w.setRow b (cs.setIfInBounds off v)) := by
    simp [execOp, Instr.storeAt, hpv, Instr.sureAddr, hyv, hrun]
  rw [this]
  exact hn' _ _ _ k (hsim.put hd (by rw [Rep]; trivial))
end seq
section ev
variable {P : Program} {r : Option Nat} {H : List AObj} {ρ : Operand → AV}
variable {d : Option Tmp} {t : TypeId} {p : String} {af : Array Edge} {g : Option (Nat × Bool)}
theorem ev_string_mark {src dst et : TypeId} {x : Operand} {j cap : Nat} {cs : Array Value} {l : List UInt8} (hsr : P.underlying src = some (.slice et)) (he : P.underlying et = some (.int .u8)) (hds : P.underlying dst = some .string)
    (hx : Less (ρ x) (.msl j 0 l.length cap)) (hj : H[j]? = some (.raw (markO et cs))) (hc : ∀ m (h : m < l.length), cs[m]? = some (.int .u8 (l[m].toNat : Int))) :
    Ev P r ⟨d, .convert src dst x, t, p, af, g⟩ H ρ (.raw (.string ⟨l.toArray⟩)) :=
  Ev.pure (by intro c h; cases h) fun e ρc ok hE hs => by
    have hp := hx e _ (hs x (by simp [Op.operands]))
    rw [Rep] at hp
    obtain ⟨a1, a2, b, hb, hpv, _⟩ := hp
    obtain ⟨b', k1, k2, k3⟩ := ok.objs j _ (hE j _ hj (fun n e => by cases e))
    rw [hb] at k1; cases k1
    have hrun := run_convert_bytes_back (P := P) e.w src dst et ⟨b, 0, none⟩ cap l hsr he hds (fun m hm => by
      rw [Addr.add_lit]
      unfold World.cell?; simp only [k2, markO]
      simpa using hc m hm)
    refine ⟨.string ⟨l.toArray⟩, ?_, by rw [Rep]⟩
    simp [execOp, hpv, hrun]
end ev
end
theorem less_mslx {i o n m c : Nat} (h : n = m) : Less (.msl i o n c) (.msl i o m c) := by subst h; exact Less.rfl' _
theorem bytesRow_size (s : List UInt8) (cap : Nat) : (bytesRow ⟨s.toArray⟩ cap).size = s.length + (cap - s.length) := by
  simp [bytesRow, ByteArray.size]
theorem mark_at {s : List UInt8} {cap k : Nat} {c : UInt8} {v : Int} (hv : v = (c.toNat : Int)) : ∀ m (h : m < (s.set k c).length), ((bytesRow ⟨s.toArray⟩ cap).setIfInBounds k (.int .u8 v))[m]? = some (.int .u8 ((s.set k c)[m].toNat : Int)) := fun m h => by
  have hm : m < s.length := by simpa using h
  have h0 := bytesRow_at ⟨s.toArray⟩ cap m (by simpa using hm)
  rw [Array.getElem?_setIfInBounds, List.getElem_set]
  by_cases e : k = m
  · subst e
    rw [if_pos rfl, if_pos rfl, if_pos (by rw [bytesRow_size]; omega), hv]
  · rw [if_neg e, if_neg e, h0]; simp
theorem digit_c {v : Int} (h : 48 ≤ v ∧ v ≤ 57) : isD (UInt8.ofNat v.toNat) = true ∧ ((UInt8.ofNat v.toNat).toNat : Int) = v := by
  have e : (UInt8.ofNat v.toNat).toNat = v.toNat := by rw [UInt8.toNat_ofNat']; omega
  refine ⟨(isD_iff _).2 (by omega), by omega⟩
theorem spoilt_a {r : Rg} (k d : Int) (hs : shB r = false) : APure Tryz.prog 16 [rgA r, I k, I d] (B true) := by
  refine ap Tryz.func16 (fun e0 he0 => ?_)
  refine wz 3 ?_
  refine kz az (short_f hs) ?_
  refine wz 15 ?_
  refine kz az (known_pure) ?_
  refine wz 1 ?_
  exact rz rfl jz
theorem spoilt_b {r : Rg} (k d : Int) (hs : shB r = true) (hr : rgOK r = false) : APure Tryz.prog 16 [rgA r, I k, I d] (B true) := by
  refine ap Tryz.func16 (fun e0 he0 => ?_)
  refine wz 3 ?_
  refine kz az (short_t hs) ?_
  refine wz 3 ?_
  refine ky az (reg_f hs hr) ?_
  refine wz 11 ?_
  refine kz az (known_pure) ?_
  refine wz 1 ?_
  exact rz rfl jz
theorem spoilt_c {r : Rg} (k d : Int) (hs : shB r = true) (hr : rgOK r = true) (hd : ¬ (0 ≤ d ∧ d ≤ 9)) : APure Tryz.prog 16 [rgA r, I k, I d] (B true) := by
  refine ap Tryz.func16 (fun e0 he0 => ?_)
  refine wz 3 ?_
  refine kz az (short_t hs) ?_
  refine wz 3 ?_
  refine ky az (reg_t hs hr) ?_
  refine wz 7 ?_
  refine sz 24 (fun g1_12 g1_12' => ?_) (fun g1_12 g1_12' => ?_)
  ·refine wz 4 ?_
   refine kz az (known_pure) ?_
   refine wz 1 ?_
   exact rz rfl jz
  refine wz 3 ?_
  refine iz (fun c_27 c_27' => ?_) (fun c_27 c_27' => ?_)
  ·refine wz 0 ?_
   refine kz az (known_pure) ?_
   refine wz 1 ?_
   exact rz rfl jz
  exfalso
  omega
theorem spoilt_rng {r : Rg} (k d : Int) (hs : shB r = true) (hr : rgOK r = true) (hd : 0 ≤ d ∧ d ≤ 9) (hl : (textR r).length ≤ 300) (ho : ¬ (0 ≤ k ∧ k < ((textR r).length : Int))) : APure Tryz.prog 16 [rgA r, I k, I d] (B true) := by
  refine ap Tryz.func16 (fun e0 he0 => ?_)
  refine wz 3 ?_
  refine kz az (short_t hs) ?_
  refine wz 3 ?_
  refine ky az (reg_t hs hr) ?_
  refine wz 7 ?_
  refine sz 24 (fun g1_12 g1_12' => ?_) (fun g1_12 g1_12' => ?_)
  ·exfalso; omega
  refine wz 3 ?_
  refine iz (fun c_27 c_27' => ?_) (fun c_27 c_27' => ?_)
  ·exfalso; omega
  refine wz 1 ?_
  refine kz az (print_t hs hr) ?_
  refine wz 11 ?_
  refine sz 38 (fun g6_2 g6_2' => ?_) (fun g6_2 g6_2' => ?_)
  ·refine wz 27 ?_
   refine kz az (known_pure) ?_
   refine wz 1 ?_
   exact rz rfl jz
  refine wz 6 ?_
  refine sz 44 (fun g6_8 g6_8' => ?_) (fun g6_8 g6_8' => ?_)
  ·refine wz 21 ?_
   refine kz az (known_pure) ?_
   refine wz 1 ?_
   exact rz rfl jz
  exfalso; omega
theorem spoilt_main {r : Rg} (k : Nat) (d : Int) (hs : shB r = true) (hr : rgOK r = true) (hd : 0 ≤ d ∧ d ≤ 9) (hl : (textR r).length ≤ 300) (ho : k < (textR r).length) (hu : ((textR r)[k].toNat : Int) ≤ 255)
    (h56 : 48 ≤ ((textR r)[k].toNat : Int) → ((textR r)[k].toNat : Int) ≤ 57 → ¬ ((textR r)[k].toNat : Int) - 48 = d → APure Tryz.prog 62 [S ((textR r).set k (UInt8.ofNat (48 + d).toNat))] (.tup [rgA rg0, I 4])) : APure Tryz.prog 16 [rgA r, I (k : Int), I d] (B true) := by
  refine ap Tryz.func16 (fun e0 he0 => ?_)
  refine wz 3 ?_
  refine kz az (short_t hs) ?_
  refine wz 3 ?_
  refine ky az (reg_t hs hr) ?_
  refine wz 7 ?_
  refine sz 24 (fun g1_12 g1_12' => ?_) (fun g1_12 g1_12' => ?_)
  ·exfalso; omega
  refine wz 3 ?_
  refine iz (fun c_27 c_27' => ?_) (fun c_27 c_27' => ?_)
  ·exfalso; omega
  refine wz 1 ?_
  refine kz az (print_t hs hr) ?_
  refine wz 17 ?_
  refine sz 44 (fun g6_8 g6_8' => ?_) (fun g6_8 g6_8' => ?_)
  ·exfalso; omega
  refine wz 6 ?_
  refine sz 50 (fun g6_14 g6_14' => ?_) (fun g6_14 g6_14' => ?_)
  ·refine wz 15 ?_
   refine kz az (known_pure) ?_
   refine wz 1 ?_
   exact rz rfl jz
  refine wz 6 ?_
  refine sz 56 (fun g6_20 g6_20' => ?_) (fun g6_20 g6_20' => ?_)
  ·refine wz 9 ?_
   refine kz az (known_pure) ?_
   refine wz 1 ?_
   exact rz rfl jz
  refine wz 8 ?_
  refine iz (fun c_64 c_64' => ?_) (fun c_64 c_64' => ?_)
  ·refine wz 0 ?_
   refine kz az (known_pure) ?_
   refine wz 1 ?_
   exact rz rfl jz
  refine wz 1 ?_
  refine sq_bytes rfl Tryz.underlying9 Tryz.underlying96 Tryz.underlying5 jz fun cap hcap => ?_
  refine wz 6 ?_
  refine sq_ev rfl (ev_less (v' := .ptr 1 k) (ev_index_msl sl96.h jz jz rfl (by rw [bs_size]; omega)) (Less.eq (congrArg (AV.ptr 1) (by omega)))) ?_
  refine sq_store_mark rfl jz jz rfl ty5.h rfl rfl (by rw [bytesRow_size]; omega) ?_
  refine wz 1 ?_
  refine sq_ev rfl (ev_string_mark (l := (textR r).set k (UInt8.ofNat (48 + d).toNat)) Tryz.underlying96 Tryz.underlying5 Tryz.underlying9 (less_mslx (by rw [bs_size, List.length_set])) rfl (mark_at (digit_c (by omega)).2.symm)) ?_
  refine kz az ((h56 (by omega) (by omega) c_64')) ?_
  refine wz 11 ?_
  refine sq_yes rfl rfl jz rfl (ev_call en64.h jz ((samer_pure rg0 (by decide) (by decide) (by decide))) ⟨jz, less_rg0, trivial⟩) ?_
  refine wz 2 ?_
  refine ky az (known_pure) ?_
  refine wz 2 ?_
  exact rz rfl jz
/-- **HideSpoilt.** -/
theorem law16 (r : Rg) (k : Int) (_ : -9223372036854775808 ≤ k) (_ : k ≤ 9223372036854775807) (d : Int) (_ : -9223372036854775808 ≤ d) (_ : d ≤ 9223372036854775807) : APure Tryz.prog 16 [rgA r, I k, I d] (B true) := by
  cases hs : shB r with
  | false => exact spoilt_a k d hs
  | true =>
    cases hr : rgOK r with
    | false => exact spoilt_b k d hs hr
    | true =>
      by_cases hd : 0 ≤ d ∧ d ≤ 9
      · have hl := text_len hr
        by_cases ho : 0 ≤ k ∧ k < ((textR r).length : Int)
        · obtain ⟨m, rfl⟩ : ∃ m : Nat, k = (m : Int) := ⟨k.toNat, by omega⟩
          have hm : m < (textR r).length := by omega
          refine spoilt_main m d hs hr hd hl hm (by have := (textR r)[m].toNat_lt; omega) fun h1 h2 h3 => ?_
          obtain ⟨c1, c2⟩ := digit_c (v := 48 + d) (by omega)
          have hn := spoilt hr hm ((isD_iff _).2 (by omega)) c1 fun e => by rw [← e] at c2; omega
          have k56 := read_pure ((textR r).set m (UInt8.ofNat (48 + d).toNat))
          unfold readAV at k56
          rw [readE_none (by rw [List.length_set]; omega) hn] at k56
          exact k56
        · exact spoilt_rng k d hs hr hd hl ho
      · exact spoilt_c k d hs hr hd
end Go.Proofs.YtjpokekbjmdgmaaGreatDoor
