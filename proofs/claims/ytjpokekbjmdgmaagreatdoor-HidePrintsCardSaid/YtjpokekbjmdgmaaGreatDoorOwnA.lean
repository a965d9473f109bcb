/-
  A part of the proof: conditions: none beyond each theorem's own.
-/
import Derived.Test.YtjpokekbjmdgmaaGreatDoorLogicA
import Derived.Test.YtjpokekbjmdgmaaGreatDoorLogicD
import Derived.Deep.Slices
import Derived.OpenShut
import Derived.Carry
import Derived.Test.YtjpokekbjmdgmaaGreatDoorLogicC
import Derived.IntWalk
import Derived.Test.YtjpokekbjmdgmaaGreatDoorSpecA
import Derived.Lib.Join
import Derived.Test.YtjpokekbjmdgmaaGreatDoorProg
import Derived.KernelRfl
import Derived.Lib.LaidTab
import Derived.Lib.ItoaNum
import Derived.Test.YtjpokekbjmdgmaaGreatDoorWalkD
import Derived.Test.YtjpokekbjmdgmaaGreatDoorWalkA
import Derived.Test.YtjpokekbjmdgmaaGreatDoorWalkE
import Derived.Test.YtjpokekbjmdgmaaGreatDoorLogicB
import Derived.Test.YtjpokekbjmdgmaaGreatDoorShelf
import Derived.Test.YtjpokekbjmdgmaaGreatDoorWalkB
import Derived.Test.YtjpokekbjmdgmaaGreatDoorWalkC
import Derived.Test.YtjpokekbjmdgmaaGreatDoorRow
set_option linter.all false
set_option maxRecDepth 100000
set_option maxHeartbeats 8000000
namespace Go.Ab
variable [Tabs]
theorem FW_room (r : Option Nat) (n : Nat) : (FW r).room n := fun _ h => by simp [FW] at h
variable {c : Ctx} {Q : AExit → St → Prop} {s : St}
end Go.Ab
namespace Go.Ab
open Go.ChangeShapes Go.WideShapes
variable [Tabs]
theorem env0_ok {w : World} (h : Tabs.is w) (hb : ∀ b, Tabs.blk b → b < w.heap.size) : EnvOK (env0 w) :=
  ⟨fun b hb => by have hb' : w.heap.size ≤ b := hb
                  have : w.heap[b]? = none := by simpa using hb'
                  simp [env0, this], fun i o h => by simp [env0] at h, fun i j b hi => by simp [env0] at hi, fun i b hi => by simp [env0] at hi, h, fun b hk => ⟨hb b hk, fun i hi => by simp [env0] at hi⟩⟩
section
variable {H : Type} {enc : TypeId × Value → H} {P : Program} {w : World} {base : Nat} {spare : Nat → Bool} {held : Bool}
theorem trodAll_stays (hl : laidOutB P = true) {W W' : World} (hheap : ∀ b, b < W.heap.size → W'.heap[b]? = W.heap[b]?) {sp' : Nat → Bool} :
    ∀ {ts : List TypeId} {vs : List Value} {ds : List (DataW H)} {ps : List MemPlace}, (∀ t ∈ ts, P.readableRec t = true ∧ t < P.types.size) → DataW.TrodAll enc P W base (fun _ => true) true ts vs ds ps → (∀ p ∈ ps, p.block < W.heap.size) → (∀ p ∈ ps, sp' p.block = true) →
      DataW.TrodAll enc P W' base sp' true ts vs ds ps
  | [], _, _, _, _, h, _, _ => by
    obtain ⟨rfl, rfl, rfl⟩ := trodAll_nil h
    exact trodAll_mk0
  | t :: ts, _, _, _, ht, h, hlt, hs => by
    obtain ⟨v, vs1, d, ds1, a, b, rfl, rfl, rfl, h1, h2⟩ := trodAll_cons h
    refine trodAll_cons_mk (WideElems.Trod_stays hl (ht t (by simp)).1 (ht t (by simp)).2 h1 (fun p hp => ?_) (fun p hp => hs p (by simp [hp]))) (trodAll_stays hl hheap (fun u hu => ht u (List.mem_cons_of_mem _ hu)) h2 (fun p hp => hlt p (by simp [hp])) (fun p hp => hs p (by simp [hp])))
    have hb := hheap p.block (hlt p (by simp [hp]))
    cases p with
    | cell b o => exact cell?_of_heap hb
    | map b => exact hb
/-- **What a law's row asks of a call that returns true and leaves what it met.** -/
theorem post_true {f : Func} {s : ChangeSpec} {W W' : World} {args : Array Value} {ds gs : List (DataW H)} {before : List MemPlace} {tb : TypeId} (hl : laidOutB P = true) (hread : ∀ t ∈ f.params.toList, P.readableRec t = true ∧ t < P.types.size)
    (hres : f.resultTypes = #[tb]) (htb : P.underlying tb = some .bool) (hvars : s.vars = []) (hspec : (s.fn H ds).results = [.lit (.bool true)] ∧ (s.fn H ds).args = ds ∧ (s.fn H ds).vars = [])
    (hW : DataW.Whole enc P f.params.toList s.vars false W args.toList ds gs before) (hheap : ∀ b, b < W.heap.size → W'.heap[b]? = W.heap[b]?) (hst : Still W W') :
    s.post enc P f false true false false W args (.bool true) W' := by
  have hlt := hW.lt
  have hW0 := hW
  obtain ⟨p, q, h1, h2, rfl, _, _⟩ := hW
  rw [hvars] at h2
  obtain ⟨rfl, rfl⟩ := trodVars_none h2
  simp only [List.append_nil] at hlt
  obtain ⟨e1, e2, e3⟩ := hspec
  refine ⟨ds, [], p ++ [], [], p, [], hW0, ?_, ?_, ?_, ?_, fun h => by cases h⟩
  · rw [List.append_nil, e1, hres]
    exact trodAll_cons_mk (RowKit.shut_bool htb _) trodAll_mk0
  · rw [List.append_nil, e2]
    exact trodAll_stays hl hheap hread h1 hlt (fun p hp => by simpa using hlt p hp)
  · rw [List.append_nil, e3, hvars]; rfl
  · refine ⟨hst.1, hst.2, fun i hi => ?_⟩
    rw [hheap i hi]
    split <;> simp_all
theorem APure.law {f : FuncId} {args : List AV} {W : World} {vs : Array Value} (hc : APure P f args (.raw (.bool true))) (ht : Tabs.is W) (hb : ∀ b, Tabs.blk b → b < W.heap.size) (hr : RepL (env0 W) args vs.toList) :
    Calls P f vs W fun x W' => x = .returned (.bool true) ∧ (∀ b, b < W.heap.size → W'.heap[b]? = W.heap[b]?) ∧ Still W W' := by
  refine ((hc (env0 W) vs (env0_ok ht hb) hr).calls (fun k => FW_room none k)).mono ?_
  rintro x w' ⟨u, e', rfl, rfl, hx, hu⟩
  rw [Rep] at hu; subst hu
  exact ⟨rfl, hx.heap, hx.still⟩
end
end Go.Ab
namespace Go.Ab
variable [Tabs]
section seq
variable {c : Ctx} {ops : Array Oper} {Q : AExit → St → Prop} {rest : List Oper} {s : St} {i : Nat}
variable {d : Option Tmp} {op : Op} {t : TypeId} {p : String} {af : Array Edge}
end seq
section cond
variable {c : Ctx} {Q : AExit → St → Prop} {s : St} {x : Operand} {y z : Code}
end cond
section split
variable {c : Ctx} {ops : Array Oper} {Q : AExit → St → Prop} {s : St} {i : Nat} {l : List Oper}
end split
section draw
variable {c : Ctx} {H0 : List AObj} {ops : Array Oper} {Q : AExit → St → Prop} {m i : Nat} {s : St} {rest : List Oper}
variable {d : Option Tmp} {op : Op} {t : TypeId} {p : String} {af : Array Edge}
end draw
section ex
variable {c : Ctx} {Q : AExit → St → Prop} {K : St → Prop} {s : St} {id j : Nat}
end ex
section app
variable {c : Ctx} {ops : Array Oper} {Q : AExit → St → Prop} {s : St} {i : Nat} {o : Oper} {l m : List Oper} {H0 : List AObj} {k : Nat}
end app
theorem W (n : Nat) {p q : Prop} (k : q) (h : Cnt n → (Unit → q) → p := by
  intro hc hk
  repeat (
    replace hc := Cnt.pred hc
    repeat (with_reducible (first | refine xn ?_ | refine sa ?_ | refine sa0 ?_ | refine aw_seq ?_ | refine aw_region ?_ | refine sq_nil ?_ | refine aw_skip ?_ | refine aw_block ?_ | refine bn ?_ | refine aw_exit ?_ | refine xe ?_ | refine be ?_ | refine bo ?_ | refine gn ?_ | refine ge ?_ | refine xr ?_ | refine br ?_ | refine gr ?_ | refine aw_label ?_ | refine aw_scope ?_))
    first
    | ((with_reducible apply sq_ev); exact rfl; exact EV)
    | ((with_reducible apply sn1); exact rfl; exact rfl; exact GD J; exact rfl)
    | ((with_reducible apply sn0); exact rfl; exact rfl; exact GD J; exact rfl)
    | ((with_reducible apply sq_yes); exact rfl; exact rfl; exact GD J; exact rfl; exact EV)
    | ((with_reducible apply su); exact rfl; exact rfl; exact J; exact rfl)
    | ((with_reducible apply sq_box); exact rfl; exact J; exact rfl)
    | ((with_reducible apply sq_alloc); exact rfl; exact ZeO.h)
    | ((with_reducible apply sq_store); exact rfl; exact J; exact J; exact rfl; exact rfl; exact TyF.h; exact rfl; exact rfl)
    | ((with_reducible refine aw_true ?_ ?_); exact GD J)
    | ((with_reducible refine aw_false ?_ ?_); exact GD J))
  repeat (with_reducible (first | refine xn ?_ | refine sa ?_ | refine sa0 ?_ | refine aw_seq ?_ | refine aw_region ?_ | refine sq_nil ?_ | refine aw_skip ?_ | refine aw_block ?_ | refine bn ?_ | refine aw_exit ?_ | refine xe ?_ | refine be ?_ | refine bo ?_ | refine gn ?_ | refine ge ?_ | refine xr ?_ | refine br ?_ | refine gr ?_ | refine aw_label ?_ | refine aw_scope ?_ | refine aw_ret ?_))
  exact hk ()) : p := h ⟨⟩ fun _ => k
end Go.Ab
namespace Hd
open Go Go.Ab Ni
theorem kdO_W {k : Int} (h : k = 1 ∨ k = 2) : kdO (kdW k) = some k := by rcases h with rfl | rfl <;> decide
end Hd
namespace Hd
open Go Go.Ab Ni
theorem cut_no {c : UInt8} : ∀ {l : List UInt8}, c ∉ l → cut c l = [l]
  | [], _ => rfl
  | b :: l, h => by
    rw [cut, if_neg (fun e => h (by simp [e])), cut_no (fun k => h (List.mem_cons_of_mem _ k))]
theorem cut_app {c : UInt8} : ∀ {w r : List UInt8}, c ∉ w → cut c (w ++ c :: r) = w :: cut c r
  | [], r, _ => by simp [cut]
  | b :: w, r, h => by
    rw [List.cons_append, cut, if_neg (fun e => h (by simp [e])), cut_app (fun k => h (List.mem_cons_of_mem _ k))]
theorem cut_pre {c : UInt8} : ∀ {ws : List (List UInt8)} {w : List UInt8}, c ∉ w → (∀ x ∈ ws, c ∉ x) → cut c (w ++ (ws.map fun x => c :: x).flatten) = w :: ws
  | [], w, h, _ => by simpa using cut_no h
  | x :: ws, w, h, k => by
    have e : w ++ ((x :: ws).map fun x => c :: x).flatten = w ++ c :: (x ++ (ws.map fun x => c :: x).flatten) := by simp
    rw [e, cut_app h, cut_pre (k x (by simp)) (fun y hy => k y (List.mem_cons_of_mem _ hy))]
theorem cut_out {c : UInt8} : ∀ {ls : List (List UInt8)} {r : List UInt8}, (∀ l ∈ ls, c ∉ l) → cut c ((ls.map fun l => l ++ [c]).flatten ++ r) = ls ++ cut c r
  | [], r, _ => by simp
  | l :: ls, r, h => by
    have e : ((l :: ls).map fun l => l ++ [c]).flatten ++ r = l ++ c :: ((ls.map fun l => l ++ [c]).flatten ++ r) := by simp
    rw [e, cut_app (h l (by simp)), cut_out (fun y hy => h y (List.mem_cons_of_mem _ hy))]; rfl
theorem numO_not {d : Nat} {w : List UInt8} {n : Int} (h : numO d w = some n) {c : UInt8} (hc : isD c = false) : c ∉ w := fun k => by
  have := List.all_eq_true.1 (numO_facts h).1 c k
  rw [hc] at this; cases this
theorem nums_read : ∀ {l : List Int}, (∀ n ∈ l, Sayd n) → allO (numO 4) (wordsOf l) = some l
  | [], _ => rfl
  | n :: l, h => by
    unfold wordsOf
    rw [List.map_cons, allO, show numO 4 (Lib.itoa n) = some n from h n (by simp), show allO (numO 4) (l.map Lib.itoa) = some l from nums_read fun m hm => h m (List.mem_cons_of_mem _ hm)]
theorem kinds_read : ∀ {l : List Int}, (∀ k ∈ l, k = 1 ∨ k = 2) → allO kdO (l.map kdW) = some l
  | [], _ => rfl
  | k :: l, h => by rw [List.map_cons, allO, kdO_W (h k (by simp)), kinds_read fun m hm => h m (List.mem_cons_of_mem _ hm)]
theorem words_not {l : List Int} (h : ∀ n ∈ l, Sayd n) {c : UInt8} (hc : isD c = false) : ∀ w ∈ wordsOf l, c ∉ w := fun w hw => by
  obtain ⟨n, hn, rfl⟩ := List.mem_map.1 hw
  exact numO_not (h n hn) hc
theorem kinds_not {l : List Int} {c : UInt8} (h1 : c ∉ wAlo) (h2 : c ∉ wAcr) : ∀ w ∈ l.map kdW, c ∉ w := fun w hw => by
  obtain ⟨k, _, rfl⟩ := List.mem_map.1 hw
  unfold kdW; split <;> assumption
theorem mem_pre {c : UInt8} (hc : c ≠ 32) {ws : List (List UInt8)} {w : List UInt8} (h : c ∉ w) (k : ∀ x ∈ ws, c ∉ x) : c ∉ w ++ preL ws := fun hm => by
  rcases List.mem_append.1 hm with hm | hm
  · exact h hm
  · obtain ⟨y, hy, hm⟩ := List.mem_flatten.1 hm
    obtain ⟨x, hx, rfl⟩ := List.mem_map.1 hy
    rcases List.mem_cons.1 hm with hm | hm
    · exact hc hm
    · exact k x hx hm
theorem lines_not {r : Rg} (td : TdR r) : ∀ l ∈ linesR r, (10 : UInt8) ∉ l := fun l hl => by
  unfold linesR at hl
  rcases List.mem_cons.1 hl with rfl | hl
  · unfold lnReg; rw [join_eq]; exact mem_pre (by decide) (by decide) (words_not td.head (by decide))
  · rcases List.mem_cons.1 hl with rfl | hl
    · unfold lnMea; rw [join_eq]; exact mem_pre (by decide) (by decide) (kinds_not (by decide) (by decide))
    · obtain ⟨h, hh, rfl⟩ := List.mem_map.1 hl
      unfold lnHid; rw [join_eq]; exact mem_pre (by decide) (by decide) (words_not (td.hide h hh) (by decide))
theorem reg_cut {r : Rg} (td : TdR r) : cut 32 (lnReg r) = wReg :: wordsOf (l6 r) := by
  unfold lnReg; rw [join_eq]; exact cut_pre (by decide) (words_not td.head (by decide))
theorem mea_cut (r : Rg) : cut 32 (lnMea r) = wMea :: r.kinds.map kdW := by
  unfold lnMea; rw [join_eq]; exact cut_pre (by decide) (kinds_not (by decide) (by decide))
theorem hid_cut {h : List Int} (hh : ∀ n ∈ h, Sayd n) : cut 32 (lnHid h) = wHid :: wordsOf h := by
  unfold lnHid; rw [join_eq]; exact cut_pre (by decide) (words_not hh (by decide))
theorem hides_read : ∀ {l : List (List Int)}, (∀ h ∈ l, ∀ n ∈ h, Sayd n) → allO numsR (l.map lnHid) = some l
  | [], _ => rfl
  | h :: l, k => by
    rw [List.map_cons, allO, hides_read fun x hx => k x (List.mem_cons_of_mem _ hx)]
    have : numsR (lnHid h) = some h := by unfold numsR; rw [hid_cut (k h (by simp)), List.drop_succ_cons, List.drop_zero, nums_read (k h (by simp))]
    rw [this]
def endL (c : Int) : List UInt8 := [101, 110, 100, 32] ++ digs3 c
theorem itoa_not {n : Int} (h : 0 ≤ n ∧ n ≤ 1399) {c : UInt8} (hc : isD c = false) : c ∉ Lib.itoa n := numO_not (itoa_four h).1 hc
theorem end_not {c : Int} (h : 0 ≤ c ∧ c ≤ 999) : (10 : UInt8) ∉ endL c := by
  have a1 := itoa_not (n := c / 100) (by omega) (c := 10) (by decide)
  have a2 := itoa_not (n := c / 10 % 10) (by omega) (c := 10) (by decide)
  have a3 := itoa_not (n := c % 10) (by omega) (c := 10) (by decide)
  unfold endL digs3
  simp [a1, a2, a3]
theorem seal_cut {ls : List (List UInt8)} (h : ∀ l ∈ ls, (10 : UInt8) ∉ l) : cut 10 (sealR ls) = ls ++ [endL (ctT ls ls.length % 199), []] := by
  have e : sealR ls = (ls.map fun l => l ++ [10]).flatten ++ (endL (ctT ls ls.length % 199) ++ 10 :: []) := by
    unfold sealR outT endL; rw [List.take_length]; simp
  rw [e, cut_out h, cut_app (end_not (by omega))]; rfl
/-- **A text is read as its register.** -/
theorem parse_text {r : Rg} (td : TdR r) : parseR (textR r) = some r := by
  have hc : cut 10 (textR r) = lnReg r :: lnMea r :: ((r.hides.map lnHid) ++ [endL (ctT (linesR r) (linesR r).length % 199), []]) := by
    unfold textR; rw [seal_cut (lines_not td)]; rfl
  have hr : rowsR (textR r) = some r := by
    unfold rowsR
    rw [hc]
    simp only
    rw [if_pos (by simp), List.length_append, show ([endL (ctT (linesR r) (linesR r).length % 199), ([] : List UInt8)]).length = 2 from rfl, Nat.add_sub_cancel, List.take_left', hides_read td.hide]
    · have h1 : headO (lnReg r) = some (l6 r) := by unfold headO numsR; rw [reg_cut td, List.drop_succ_cons, List.drop_zero, nums_read td.head]; rfl
      have h2 : kindsO (lnMea r) = some r.kinds := by unfold kindsO; rw [mea_cut, List.drop_succ_cons, List.drop_zero, kinds_read td.kind]
      rw [h1, h2]; rfl
    · rfl
  unfold parseR; rw [hr]; simp
theorem outlen {ls : List (List UInt8)} {B : Nat} (h : ∀ l ∈ ls, l.length ≤ B) : ((ls.map fun l => l ++ [10]).flatten).length ≤ (B + 1) * ls.length := by
  induction ls with
  | nil => simp
  | cons w ws ih =>
    have h1 := h w (by simp)
    have h2 := ih (fun x hx => h x (List.mem_cons_of_mem _ hx))
    simp only [List.map_cons, List.flatten_cons, List.length_append, List.length_cons, Nat.mul_add]
    simp only [List.length_nil]
    omega
theorem text_len {r : Rg} (h : rgOK r = true) : (textR r).length ≤ 300 := by
  have B := rgOK_B h
  have h2 := B.nh
  have e : textR r = lnReg r ++ 10 :: (lnMea r ++ 10 :: ((((r.hides.map lnHid).map fun l => l ++ [10]).flatten) ++ ([101, 110, 100, 32] ++ (digs3 (ctT (linesR r) (linesR r).length % 199) ++ [10])))) := by
    unfold textR sealR outT; rw [List.take_length]; simp [linesR]
  have h3 := outlen (hid_len h)
  rw [List.length_map] at h3
  have h4 : (digs3 (ctT (linesR r) (linesR r).length % 199)).length ≤ 12 := by
    unfold digs3; simp only [List.length_append]
    have a1 := (itoa_four (n := ctT (linesR r) (linesR r).length % 199 / 100) (by omega)).2
    have a2 := (itoa_four (n := ctT (linesR r) (linesR r).length % 199 / 10 % 10) (by omega)).2
    have a3 := (itoa_four (n := ctT (linesR r) (linesR r).length % 199 % 10) (by omega)).2
    omega
  have a := reg_len (ok_td h)
  have b := mea_len h
  rw [e]
  generalize (((r.hides.map lnHid).map fun l => l ++ [10]).flatten) = F at h3 ⊢
  simp only [List.length_append, List.length_cons, List.length_nil]
  omega
end Hd
namespace Go.Proofs.YtjpokekbjmdgmaaGreatDoor
open Go Go.Ab Ni Hd
theorem rin_pure (n lo hi : Int) : APure Tryz.prog 74 [I n, I lo, I hi] (B (inn n lo hi)) := by
  refine ap Tryz.func74 (fun e0 he0 => ?_)
  refine wz 5 ?_
  refine sz 10 (fun g1 g1' => ?_) (fun g1 g1' => ?_)
  ·refine wz 5 ?_
   exact rz rfl (Less.eq (by simp [inn, *]))
  refine wz 5 ?_
  exact rz rfl (Less.eq (by simp [inn, *]))
end Go.Proofs.YtjpokekbjmdgmaaGreatDoor
namespace Go.Proofs.YtjpokekbjmdgmaaGreatDoor
open Go Go.Ab Ni Hd
def printE (r : Rg) : List UInt8 × Int := if rgOK r = true then (textR r, 0) else ([], 2)
theorem print_pure (r : Rg) (hk : r.kinds.length ≤ 1000000) (hh : r.hides.length ≤ 1000000) (hw : ∀ h ∈ r.hides, h.length ≤ 1000000) : APure Tryz.prog 61 [rgA r] (.tup [S (printE r).1, I (printE r).2]) := by
  refine ap Tryz.func61 (fun e0 he0 => ?_)
  refine wz 4 ?_
  refine kz az (isregister_pure r hk hh hw) ?_
  refine wz 1 ?_
  refine iz (fun c_6 c_6' => ?_) (fun c_6 c_6' => ?_)
  ·have hro : rgOK r = false := by simpa using c_6
   have he : printE r = ([], 2) := by unfold printE; rw [hro]; rfl
   refine wz 2 ?_
   exact retQ_pure (v := .tup [.raw _, .raw _]) rfl rfl (less_tup ⟨Less.eq (by rw [he]), Less.eq (by rw [he]), trivial⟩)
  have hro : rgOK r = true := by simpa using c_6
  have he : printE r = (textR r, 0) := by unfold printE; rw [if_pos hro]
  refine wz 1 ?_
  refine kz az (text_pure (sm_ok hro)) ?_
  refine wz 2 ?_
  exact retQ_pure (v := .tup [.raw _, .raw _]) rfl rfl (less_tup ⟨Less.eq (by rw [he]), Less.eq (by rw [he]), trivial⟩)
end Go.Proofs.YtjpokekbjmdgmaaGreatDoor
namespace Go.Proofs.YtjpokekbjmdgmaaGreatDoor
open Go Go.Ab Ni Hd
instance en121 : EnT Tryz.prog 121 := ⟨Ent.of Tryz.func121 (by kernel_rfl) rfl⟩
instance en64 : EnT Tryz.prog 64 := ⟨Ent.of Tryz.func64 (by kernel_rfl) rfl⟩
def shB (r : Rg) : Bool := decide ((r.kinds.length ≤ 8 ∧ r.hides.length ≤ 8) ∧ ∀ i, (hi : i < r.hides.length) → i < 9 → r.hides[i].length ≤ 10)
theorem shB_fin {r : Rg} (h3 : ∀ i, (hi : i < r.hides.length) → i < 9 → r.hides[i].length ≤ 10) : shB r = (decide (r.kinds.length ≤ 8) && decide (r.hides.length ≤ 8)) := by
  rw [Bool.eq_iff_iff]; unfold shB; simp only [decide_eq_true_eq, Bool.and_eq_true]
  exact ⟨fun h => h.1, fun h => ⟨h, h3⟩⟩
theorem shB_row {r : Rg} {i : Nat} (hi : i < r.hides.length) (h9 : i < 9) (h : ¬ r.hides[i].length ≤ 10) : shB r = false := decide_eq_false fun q => h (q.2 i hi h9)
theorem shB_len {r : Rg} (h : shB r = true) : r.kinds.length ≤ 1000000 ∧ r.hides.length ≤ 1000000 ∧ (∀ h ∈ r.hides, h.length ≤ 1000000) := by
  have q := of_decide_eq_true h
  refine ⟨by omega, by omega, fun x hx => ?_⟩
  obtain ⟨i, hi, rfl⟩ := List.getElem_of_mem hx
  have := q.2 i hi (by omega); omega
theorem rg_kind {r : Rg} {i : Nat} (hi : i < r.kinds.length) (h : kdOK r.kinds[i] = false) : rgOK r = false := by
  have e : r.kinds.all kdOK = false := by rw [List.all_eq_false]; exact ⟨_, List.getElem_mem hi, by rw [h]; simp⟩
  unfold rgOK; rw [e]; simp
theorem rg_hide {r : Rg} {i : Nat} (hi : i < r.hides.length) (h : hdOK r.kinds.length r.hides[i] = false) : rgOK r = false := by
  have e : r.hides.all (hdOK r.kinds.length) = false := by rw [List.all_eq_false]; exact ⟨_, List.getElem_mem hi, by rw [h]; simp⟩
  unfold rgOK; rw [e]; simp
theorem hd_len {w : Nat} {h : List Int} (e : h.length ≠ w) : hdOK w h = false := by unfold hdOK; rw [decide_eq_false e]; rfl
theorem hd_num {w : Nat} {h : List Int} {j : Nat} (hj : j < h.length) (e : inn h[j] 1 500 = false) : hdOK w h = false := by
  have q : (h.all fun n => inn n 1 500) = false := by rw [List.all_eq_false]; exact ⟨_, List.getElem_mem hj, by rw [e]; simp⟩
  unfold hdOK; rw [q]; simp
theorem hd_yes {w : Nat} {h : List Int} (e : h.length = w) (k : ∀ j, (hj : j < h.length) → inn h[j] 1 500 = true) : hdOK w h = true := by
  unfold hdOK; rw [decide_eq_true e, List.all_eq_true.2 fun x hx => by obtain ⟨j, hj, rfl⟩ := List.getElem_of_mem hx; exact k j hj]; rfl
theorem all_of {α : Type} {q : α → Bool} {l : List α} (h : ∀ j, (hj : j < l.length) → q l[j] = true) : l.all q = true := List.all_eq_true.2 fun x hx => by obtain ⟨j, hj, rfl⟩ := List.getElem_of_mem hx; exact h j hj
theorem short_pure (r : Rg) : APure Tryz.prog 20 [rgA r] (B (shB r)) := by
  refine ap Tryz.func20 (fun e0 he0 => ?_)
  refine wz 3 ?_
  refine aw_loopk (ι := { k : Nat // k ≤ r.hides.length ∧ k ≤ 9 ∧ ∀ i, (hi : i < r.hides.length) → i < k → r.hides[i].length ≤ 10 }) [1] (fun i => [(3, I i.1)]) (fun H i => H) (fun i => r.hides.length - i.1) (⟨0, Nat.zero_le _, by omega, by omega⟩) ⟨jz, jz, trivial⟩ rfl ?_
  rintro ⟨k, hk, hk9, hok⟩
  refine nz ?_
  refine wz 6 ?_
  refine sz 9 (fun g2_5 g2_5' => ?_) (fun g2_5 g2_5' => ?_)
  ·have hkl : k < r.hides.length := by omega
   refine wz 3 ?_
   refine iz (fun c_12 c_12' => ?_) (fun c_12 c_12' => ?_)
   ·have hk9b : k < 9 := by have := of_decide_eq_true c_12; omega
    refine wz 7 ?_
    refine iz (fun c_21 c_21' => ?_) (fun c_21 c_21' => ?_)
    ·have hbad := shB_row hkl hk9b (by omega)
     refine wz 1 ?_
     exact rz rfl (Less.eq (by rw [hbad]))
    refine wz 3 ?_
    exact ⟨⟨k + 1, by omega, by omega, fun i hi h => (by by_cases e : i = k; (subst e; omega); exact hok i hi (by omega))⟩, by simp only; omega, Sub.slots ⟨jz, jz, trivial⟩⟩
   refine wz 5 ?_
   refine sz 26 (fun g6_4 g6_4' => ?_) (fun g6_4 g6_4' => ?_)
   ·refine wz 6 ?_
    exact rz rfl (Less.eq (congrArg B (by have h9 := of_decide_eq_false c_12; rw [shB_fin (fun i hi h8 => hok i hi (by omega)), Bool.eq_iff_iff]; simp; omega)))
   refine wz 6 ?_
   exact rz rfl (Less.eq (congrArg B (by have h9 := of_decide_eq_false c_12; rw [shB_fin (fun i hi h8 => hok i hi (by omega)), Bool.eq_iff_iff]; simp; omega)))
  obtain rfl : k = r.hides.length := by omega
  refine wz 9 ?_
  refine sz 26 (fun g6_4 g6_4' => ?_) (fun g6_4 g6_4' => ?_)
  ·refine wz 6 ?_
   exact rz rfl (Less.eq (congrArg B (by rw [shB_fin (fun i hi _ => hok i hi hi), Bool.eq_iff_iff]; simp; omega)))
  refine wz 6 ?_
  exact rz rfl (Less.eq (congrArg B (by rw [shB_fin (fun i hi _ => hok i hi hi), Bool.eq_iff_iff]; simp; omega)))
theorem rspan_pure (a b : Int) (ha : -1000000 ≤ a ∧ a ≤ 1000000 ∨ True) : APure Tryz.prog 75 [.agg [I a, I b]] (B (spOK a b)) := by
  refine ap Tryz.func75 (fun e0 he0 => ?_)
  refine vz 2 ?_
  refine sq_nil ?_
  refine aw_seq ?_
  have hin : ∀ x lo hi : Int, inn x lo hi = true ↔ lo ≤ x ∧ x ≤ hi := fun x lo hi => by unfold inn; simp
  refine wz 2 ?_
  refine kz az (rin_pure _ _ _) ?_
  refine wz 1 ?_
  refine sz 6 (fun g1_3 g1_3' => ?_) (fun g1_3 g1_3' => ?_)
  ·have h1 := (hin _ _ _).1 g1_3
   refine wz 4 ?_
   refine ky az (rin_pure _ _ _) ?_
   refine wz 2 ?_
   refine sz 13 (fun g1_10 g1_10' => ?_) (fun g1_10 g1_10' => ?_)
   ·have h2 := (hin _ _ _).1 g1_10
    refine wz 8 ?_
    exact rz rfl (Less.eq (by unfold spOK; simp [*]))
   refine wz 8 ?_
   exact rz rfl (Less.eq (by unfold spOK; simp [*]))
  refine wz 15 ?_
  exact rz rfl (Less.eq (by unfold spOK; simp [*]))
theorem register_pure (r : Rg) (hk : r.kinds.length ≤ 1000000) (hh : r.hides.length ≤ 1000000) (hw : ∀ h ∈ r.hides, h.length ≤ 1000000) : APure Tryz.prog 21 [rgA r] (B (rgOK r)) := by
  refine ap Tryz.func21 (fun e0 he0 => ?_)
  refine wz 5 ?_
  refine kz az (rin_pure _ _ _) ?_
  refine wz 2 ?_
  refine sz 11 (fun g1_5 g1_5' => ?_) (fun g1_5 g1_5' => ?_)
  ·refine wz 8 ?_
   exact rz rfl (Less.eq (by unfold rgOK; simp_all))
  refine wz 3 ?_
  refine ky az (rin_pure _ _ _) ?_
  refine wz 2 ?_
  refine iz (fun c_17 c_17' => ?_) (fun c_17 c_17' => ?_)
  ·refine wz 1 ?_
   exact rz rfl (Less.eq (by unfold rgOK; simp_all))
  refine wz 1 ?_
  refine aw_loopk (ι := { k : Nat // k ≤ r.kinds.length ∧ ∀ i, (hi : i < r.kinds.length) → i < k → kdOK r.kinds[i] = true }) [1] (fun i => [(3, I i.1)]) (fun H i => H) (fun i => r.kinds.length - i.1) (⟨0, Nat.zero_le _, by omega⟩) ⟨jz, jz, trivial⟩ rfl ?_
  rintro ⟨k, hkk, hok⟩
  refine nz ?_
  refine wz 5 ?_
  refine iz (fun c_22 c_22' => ?_) (fun c_22 c_22' => ?_)
  ·have hkl : k < r.kinds.length := by omega
   refine wz 7 ?_
   refine sz 31 (fun g6_6 g6_6' => ?_) (fun g6_6 g6_6' => ?_)
   ·refine wz 7 ?_
    refine iz (fun c_38 c_38' => ?_) (fun c_38 c_38' => ?_)
    ·have hbad := rg_kind hkl (by unfold kdOK; have h5 := of_decide_eq_true c_38; exact decide_eq_false (by omega))
     refine wz 1 ?_
     exact rz rfl (Less.eq (by rw [hbad]))
    have hkd : kdOK r.kinds[k] = true := by unfold kdOK; have h5 := of_decide_eq_false c_38; exact decide_eq_true (by omega)
    refine wz 3 ?_
    exact ⟨⟨k + 1, by omega, fun i hi h => (by by_cases e : i = k; (subst e; exact hkd); exact hok i hi (by omega))⟩, by simp only; omega, Sub.slots ⟨jz, jz, trivial⟩⟩
   have hkd : kdOK r.kinds[k] = true := by unfold kdOK; exact decide_eq_true (by omega)
   refine wz 11 ?_
   exact ⟨⟨k + 1, by omega, fun i hi h => (by by_cases e : i = k; (subst e; exact hkd); exact hok i hi (by omega))⟩, by simp only; omega, Sub.slots ⟨jz, jz, trivial⟩⟩
  obtain rfl : k = r.kinds.length := by omega
  have hall1 : r.kinds.all kdOK = true := all_of fun j hj => hok j hj hj
  refine wz 1 ?_
  refine aw_loopk (ι := { k : Nat // k ≤ r.hides.length ∧ ∀ i, (hi : i < r.hides.length) → i < k → hdOK r.kinds.length r.hides[i] = true }) [1] (fun i => [(4, I i.1)]) (fun H i => H) (fun i => r.hides.length - i.1) (⟨0, Nat.zero_le _, by omega⟩) ⟨jz, jz, trivial⟩ rfl ?_
  rintro ⟨k, hkh, hok2⟩
  refine nz ?_
  refine wz 5 ?_
  refine iz (fun c_43 c_43' => ?_) (fun c_43 c_43' => ?_)
  ·have hhl : k < r.hides.length := by omega
   have hwl := hw _ (List.getElem_mem hhl)
   refine wz 0 ?_
   refine aw_draw 10 mo (by kernel_rfl) ?_
   refine dz 10 ?_
   refine wz 0 ?_
   refine iz (fun c_55 c_55' => ?_) (fun c_55 c_55' => ?_)
   ·have hbad := rg_hide hhl (hd_len (by omega))
    refine wz 1 ?_
    exact rz rfl (Less.eq (by rw [hbad]))
   have hle : r.hides[k].length = r.kinds.length := by omega
   refine wz 1 ?_
   refine aw_loopk (ι := { j : Nat // j ≤ r.hides[k].length ∧ ∀ i, (hi : i < r.hides[k].length) → i < j → inn r.hides[k][i] 1 500 = true }) [1, 4] (fun u => [(5, I u.1)]) (fun H u => H) (fun u => r.hides[k].length - u.1) (⟨0, Nat.zero_le _, by omega⟩) ⟨jz, jz, jz, trivial⟩ rfl ?_
   rintro ⟨j, hj, hok3⟩
   refine nz ?_
   refine wz 8 ?_
   refine iz (fun c_63 c_63' => ?_) (fun c_63 c_63' => ?_)
   ·have hjl : j < r.hides[k].length := by omega
    refine wz 8 ?_
    refine kz az (rin_pure _ _ _) ?_
    refine wz 1 ?_
    refine iz (fun c_75 c_75' => ?_) (fun c_75 c_75' => ?_)
    ·have hbad := rg_hide hhl (hd_num hjl (by simpa using c_75))
     refine wz 1 ?_
     exact rz rfl (Less.eq (by rw [hbad]))
    have hin : inn r.hides[k][j] 1 500 = true := by simpa using c_75
    refine wz 3 ?_
    exact ⟨⟨j + 1, by omega, fun i hi h => (by by_cases e : i = j; (subst e; exact hin); exact hok3 i hi (by omega))⟩, by simp only; omega, Sub.slots ⟨jz, jz, jz, trivial⟩⟩
   obtain rfl : j = r.hides[k].length := by omega
   refine wz 3 ?_
   exact ⟨⟨k + 1, by omega, fun i hi h => (by by_cases e : i = k; (subst e; exact hd_yes hle fun j hj => hok3 j hj hj); exact hok2 i hi (by omega))⟩, by simp only; omega, Sub.slots ⟨jz, jz, trivial⟩⟩
  obtain rfl : k = r.hides.length := by omega
  have hall2 : r.hides.all (hdOK r.kinds.length) = true := all_of fun j hj => hok2 j hj hj
  refine wz 2 ?_
  refine kz az (rspan_pure _ _ (.inr trivial)) ?_
  refine wz 1 ?_
  refine sz 79 (fun g18_3 g18_3' => ?_) (fun g18_3 g18_3' => ?_)
  ·refine wz 2 ?_
   refine ky az (rspan_pure _ _ (.inr trivial)) ?_
   refine wz 2 ?_
   refine sz 84 (fun g18_8 g18_8' => ?_) (fun g18_8 g18_8' => ?_)
   ·refine wz 2 ?_
    refine ky az (rin_pure _ _ _) ?_
    refine wz 2 ?_
    refine sz 89 (fun g18_13 g18_13' => ?_) (fun g18_13 g18_13' => ?_)
    ·refine wz 2 ?_
     refine ky az (rin_pure _ _ _) ?_
     refine wz 2 ?_
     exact rz rfl (Less.eq (by unfold rgOK; rw [hall1, hall2]; simp_all))
    refine wz 5 ?_
    exact rz rfl (Less.eq (by unfold rgOK; rw [hall1, hall2]; simp_all))
   refine wz 10 ?_
   exact rz rfl (Less.eq (by unfold rgOK; rw [hall1, hall2]; simp_all))
  refine wz 15 ?_
  exact rz rfl (Less.eq (by unfold rgOK; rw [hall1, hall2]; simp_all))
theorem samel_pure (l : List (List Int)) (hl : l.length ≤ 1000000) (hw : ∀ h ∈ l, h.length ≤ 1000000) : APure Tryz.prog 121 [hds l, hds l] (B true) := by
  refine ap Tryz.func121 (fun e0 he0 => ?_)
  refine wz 6 ?_
  refine iz (fun c_10 c_10' => ?_) (fun c_10 c_10' => ?_)
  ·exfalso
   simp at c_10
  refine wz 1 ?_
  refine aw_loopk (ι := { k : Nat // k ≤ l.length }) [0, 1] (fun i => [(5, I i.1)]) (fun H i => H) (fun i => l.length - i.1) (⟨0, Nat.zero_le _⟩) ⟨jz, jz, jz, trivial⟩ rfl ?_
  rintro ⟨k, hk⟩
  refine nz ?_
  refine wz 4 ?_
  refine iz (fun c_14 c_14' => ?_) (fun c_14 c_14' => ?_)
  ·have hkl : k < l.length := by omega
   refine wz 0 ?_
   refine aw_draw 10 mo (by kernel_rfl) ?_
   refine dz 8 ?_
   refine dkz az (same_t (hw _ (List.getElem_mem hkl)) (hw _ (List.getElem_mem hkl)) rfl) ?_
   refine dz 1 ?_
   refine wz 0 ?_
   refine iz (fun c_26 c_26' => ?_) (fun c_26 c_26' => ?_)
   ·exfalso
    simp at c_26
   refine wz 3 ?_
   exact ⟨⟨k + 1, by omega⟩, by simp only; omega, Sub.slots ⟨jz, jz, jz, trivial⟩⟩
  refine wz 1 ?_
  exact rz rfl (Less.eq rfl)
theorem samer_pure (r : Rg) (hk : r.kinds.length ≤ 1000000) (hh : r.hides.length ≤ 1000000) (hw : ∀ h ∈ r.hides, h.length ≤ 1000000) : APure Tryz.prog 64 [rgA r, rgA r] (B true) := by
  refine ap Tryz.func64 (fun e0 he0 => ?_)
  refine wz 9 ?_
  refine sz 11 (fun g1_5 g1_5' => ?_) (fun g1_5 g1_5' => ?_)
  ·exfalso
   first | omega | simp_all
  refine wz 7 ?_
  refine sz 18 (fun g1_12 g1_12' => ?_) (fun g1_12 g1_12' => ?_)
  ·exfalso
   first | omega | simp_all
  refine wz 4 ?_
  refine sq_yes rfl rfl (less_b g1_12) rfl (ev_neq25 jz jz) ?_
  refine wz 2 ?_
  refine sz 25 (fun g1_19 g1_19' => ?_) (fun g1_19 g1_19' => ?_)
  ·exfalso
   first | omega | simp_all
  refine wz 4 ?_
  refine sq_yes rfl rfl (less_b g1_19) rfl (ev_neq25 jz jz) ?_
  refine wz 2 ?_
  refine sz 32 (fun g1_26 g1_26' => ?_) (fun g1_26 g1_26' => ?_)
  ·exfalso
   first | omega | simp_all
  refine wz 8 ?_
  refine iz (fun c_40 c_40' => ?_) (fun c_40 c_40' => ?_)
  ·exfalso
   first | omega | simp_all
  refine wz 1 ?_
  refine aw_loopk (ι := { k : Nat // k ≤ r.kinds.length }) [2, 3] (fun i => [(5, I i.1)]) (fun H i => H) (fun i => r.kinds.length - i.1) (⟨0, Nat.zero_le _⟩) ⟨jz, jz, jz, trivial⟩ rfl ?_
  rintro ⟨k, hkk⟩
  refine nz ?_
  refine wz 5 ?_
  refine iz (fun c_45 c_45' => ?_) (fun c_45 c_45' => ?_)
  ·have hkl : k < r.kinds.length := by omega
   refine wz 0 ?_
   refine aw_draw 11 mo (by kernel_rfl) ?_
   refine dz 11 ?_
   refine wz 0 ?_
   refine iz (fun c_58 c_58' => ?_) (fun c_58 c_58' => ?_)
   ·exfalso
    simp at c_58
   refine wz 3 ?_
   exact ⟨⟨k + 1, by omega⟩, by simp only; omega, Sub.slots ⟨jz, jz, jz, trivial⟩⟩
  refine wz 4 ?_
  refine kz az (samel_pure r.hides hh hw) ?_
  refine wz 1 ?_
  exact rz rfl jz
end Go.Proofs.YtjpokekbjmdgmaaGreatDoor
namespace Go.Proofs.YtjpokekbjmdgmaaGreatDoor
open Go Go.Ab Ni Hd
instance en61 : EnT Tryz.prog 61 := ⟨Ent.of Tryz.func61 (by kernel_rfl) rfl⟩
theorem short_t {r : Rg} (h : shB r = true) : APure Tryz.prog 20 [rgA r] (B true) := by have q := short_pure r; rw [h] at q; exact q
theorem short_f {r : Rg} (h : shB r = false) : APure Tryz.prog 20 [rgA r] (B false) := by have q := short_pure r; rw [h] at q; exact q
theorem reg_t {r : Rg} (hs : shB r = true) (h : rgOK r = true) : APure Tryz.prog 21 [rgA r] (B true) := by have q := register_pure r (shB_len hs).1 (shB_len hs).2.1 (shB_len hs).2.2; rw [h] at q; exact q
theorem reg_f {r : Rg} (hs : shB r = true) (h : rgOK r = false) : APure Tryz.prog 21 [rgA r] (B false) := by have q := register_pure r (shB_len hs).1 (shB_len hs).2.1 (shB_len hs).2.2; rw [h] at q; exact q
theorem print_f {r : Rg} (hs : shB r = true) (h : rgOK r = false) : APure Tryz.prog 61 [rgA r] (.tup [S [], I 2]) := by
  have q := print_pure r (shB_len hs).1 (shB_len hs).2.1 (shB_len hs).2.2
  have e : printE r = ([], 2) := by unfold printE; rw [h]; rfl
  rw [e] at q; exact q
theorem print_t {r : Rg} (hs : shB r = true) (h : rgOK r = true) : APure Tryz.prog 61 [rgA r] (.tup [S (textR r), I 0]) := by
  have q := print_pure r (shB_len hs).1 (shB_len hs).2.1 (shB_len hs).2.2
  have e : printE r = (textR r, 0) := by unfold printE; rw [h]; rfl
  rw [e] at q; exact q
theorem read_t {r : Rg} (h : rgOK r = true) : APure Tryz.prog 62 [S (textR r)] (.tup [rgA r, I 0]) := by
  have q := read_pure (textR r)
  have hl := text_len h
  rw [readAV, readE_ok (by omega) (parse_text (ok_td h)) h] at q; exact q
theorem rprint_t {r : Rg} (h : rgOK r = true) : APure Tryz.prog 63 [rgA r] (S (textR r)) := by
  have gB := rgOK_B h
  refine rprint_pure (sm_ok h) (fun n hn => ?_) (fun x hx n hn => ?_)
  · have ha := gB.a; have hb := gB.b; have ho := gB.off; have hm := gB.mends
    simp only [l6, List.mem_cons, List.not_mem_nil, or_false] at hn
    rcases hn with rfl | rfl | rfl | rfl | rfl | rfl <;> omega
  · obtain ⟨i, hi, rfl⟩ := List.getElem_of_mem hx
    have e := gB.hl i hi
    obtain ⟨j, hj, rfl⟩ := List.getElem_of_mem hn
    have := gB.sz i j hi (by rw [← e]; exact hj)
    unfold Hd.sz at this; rw [getD_at hi, getD_at hj] at this; omega
theorem samer_t {r : Rg} (hs : shB r = true) : APure Tryz.prog 64 [rgA r, rgA r] (B true) := samer_pure r (shB_len hs).1 (shB_len hs).2.1 (shB_len hs).2.2
theorem law14_a {r : Rg} (hs : shB r = false) : APure Tryz.prog 14 [rgA r] (B true) := by
  refine ap Tryz.func14 (fun e0 he0 => ?_)
  refine wz 3 ?_
  refine kz az (short_f hs) ?_
  refine wz 2 ?_
  refine kz az (known_pure) ?_
  refine wz 1 ?_
  exact rz rfl jz
theorem law14_b {r : Rg} (hs : shB r = true) (hr : rgOK r = false) : APure Tryz.prog 14 [rgA r] (B true) := by
  refine ap Tryz.func14 (fun e0 he0 => ?_)
  refine wz 3 ?_
  refine kz az (short_t hs) ?_
  refine wz 3 ?_
  refine kz az (print_f hs hr) ?_
  refine wz 6 ?_
  refine kz az (reg_f hs hr) ?_
  refine wz 6 ?_
  refine sq_yes rfl rfl jz rfl (ev_less (ev_seqS (a := []) (b := []) jz jz) (Less.eq (b := B true) (by rw [decide_eq_true rfl]))) ?_
  refine wz 2 ?_
  refine ky az (known_pure) ?_
  refine wz 2 ?_
  exact rz rfl jz
theorem law14_c {r : Rg} (hs : shB r = true) (hr : rgOK r = true) : APure Tryz.prog 14 [rgA r] (B true) := by
  refine ap Tryz.func14 (fun e0 he0 => ?_)
  refine wz 3 ?_
  refine kz az (short_t hs) ?_
  refine wz 3 ?_
  refine kz az (print_t hs hr) ?_
  refine wz 6 ?_
  refine kz az (reg_t hs hr) ?_
  refine wz 3 ?_
  refine kz az (read_t hr) ?_
  refine wz 11 ?_
  refine ky az (rprint_t hr) ?_
  refine sq_yes rfl rfl jz rfl (ev_less (ev_seqS (a := textR r) (b := textR r) jz jz) (Less.eq (b := B true) (by rw [decide_eq_true rfl]))) ?_
  refine wz 8 ?_
  refine ky az (samer_t hs) ?_
  refine wz 2 ?_
  refine ky az (known_pure) ?_
  refine wz 2 ?_
  exact rz rfl jz
/-- **HidePrints.** -/
theorem law14 (r : Rg) : APure Tryz.prog 14 [rgA r] (B true) := by
  cases hs : shB r with
  | false => exact law14_a hs
  | true =>
    cases hr : rgOK r with
    | false => exact law14_b hs hr
    | true => exact law14_c hs hr
end Go.Proofs.YtjpokekbjmdgmaaGreatDoor
