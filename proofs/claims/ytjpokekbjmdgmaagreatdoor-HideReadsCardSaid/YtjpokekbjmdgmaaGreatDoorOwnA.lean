/-
  A part of the proof: conditions: none beyond each theorem's own.
-/
import Derived.Test.YtjpokekbjmdgmaaGreatDoorLogicA
import Derived.Test.YtjpokekbjmdgmaaGreatDoorLogicC
import Derived.Laws.StructEq
import Derived.Test.YtjpokekbjmdgmaaGreatDoorLogicD
import Derived.Deep.Slices
import Derived.OpenShut
import Derived.Carry
import Derived.IntWalk
import Derived.Test.YtjpokekbjmdgmaaGreatDoorSpecA
import Derived.Lib.Join
import Derived.Test.YtjpokekbjmdgmaaGreatDoorProg
import Derived.KernelRfl
import Derived.Lib.LaidTab
import Derived.Lib.ItoaNum
import Derived.Test.YtjpokekbjmdgmaaGreatDoorWalkD
import Derived.Test.YtjpokekbjmdgmaaGreatDoorWalkA
import Derived.Test.YtjpokekbjmdgmaaGreatDoorWalkE
import Derived.Test.YtjpokekbjmdgmaaGreatDoorLogicB
import Derived.Test.YtjpokekbjmdgmaaGreatDoorShelf
import Derived.Test.YtjpokekbjmdgmaaGreatDoorWalkB
import Derived.Test.YtjpokekbjmdgmaaGreatDoorWalkC
import Derived.Test.YtjpokekbjmdgmaaGreatDoorRow
set_option linter.all false
set_option maxRecDepth 100000
set_option maxHeartbeats 8000000
namespace Go.Ab
variable [Tabs]
theorem FW_room (r : Option Nat) (n : Nat) : (FW r).room n := fun _ h => by simp [FW] at h
variable {c : Ctx} {Q : AExit → St → Prop} {s : St}
end Go.Ab
namespace Go.Ab
variable [Tabs]
section ops
variable {P : Program} {r : Option Nat} {H : List AObj} {ρ : Operand → AV}
variable {d : Option Tmp} {t : TypeId} {p : String} {af : Array Edge} {g : Option (Nat × Bool)}
variable {x y z : Operand}
theorem ev_slice_str {xt : TypeId} {s : ByteArray} {lo hi : Nat} {ol oh : Option Operand} (ht : P.underlying xt = some .string) (hx : Less (ρ x) (.raw (.string s)))
    (hl : match ol with | none => lo = 0 | some q => Less (ρ q) (.raw (.int .i64 (lo : Int)))) (hh : match oh with | none => hi = s.size | some q => Less (ρ q) (.raw (.int .i64 (hi : Int)))) (h1 : lo ≤ hi) (h2 : hi ≤ s.size) :
    Ev P r ⟨d, .slice xt x ol oh none, t, p, af, g⟩ H ρ (.raw (.string (s.extract lo hi))) :=
  Ev.pure (by intro c h; cases h) fun e ρc ok hE hs => by
    have hv := rep_raw hx (hs x (by cases ol <;> cases oh <;> simp [Op.operands]))
    have hlo : ∀ q, ol = some q → ρc q = .int .i64 (lo : Int) := fun q hq => by
      subst hq; exact rep_raw hl (hs q (by cases oh <;> simp [Op.operands]))
    have hhi : ∀ q, oh = some q → ρc q = .int .i64 (hi : Int) := fun q hq => by
      subst hq; exact rep_raw hh (hs q (by cases ol <;> simp [Op.operands]))
    have hL : ol = none → lo = 0 := fun h => by subst h; exact hl
    have hH : oh = none → hi = s.size := fun h => by subst h; exact hh
    have hb : (Instr.sliceBounds false s.size s.size (ol.map ρc) (oh.map ρc) none).run P e.w = .ok (lo, hi, s.size) e.w := by
      cases ol with
      | none =>
        obtain rfl := hL rfl
        cases oh with
        | none => obtain rfl := hH rfl; simp [Instr.sliceBounds]
        | some q' => simp [Instr.sliceBounds, Instr.sliceBound, hhi q' rfl, asIntOf, h2]
      | some q =>
        cases oh with
        | none => obtain rfl := hH rfl; simp [Instr.sliceBounds, Instr.sliceBound, hlo q rfl, asIntOf, h1]
        | some q' => simp [Instr.sliceBounds, Instr.sliceBound, hlo q rfl, hhi q' rfl, asIntOf, h2, h1]
    refine ⟨.string (s.extract lo hi), ?_, by rw [Rep]⟩
    simp [execOp, Instr.sliceAt, Instr.slice, run_und ht, hv, hb]
end ops
end Go.Ab
namespace Go.Ab
open Go.ChangeShapes Go.WideShapes
variable [Tabs]
theorem env0_ok {w : World} (h : Tabs.is w) (hb : ∀ b, Tabs.blk b → b < w.heap.size) : EnvOK (env0 w) :=
  ⟨fun b hb => by have hb' : w.heap.size ≤ b := hb
                  have : w.heap[b]? = none := by simpa using hb'
                  simp [env0, this], fun i o h => by simp [env0] at h, fun i j b hi => by simp [env0] at hi, fun i b hi => by simp [env0] at hi, h, fun b hk => ⟨hb b hk, fun i hi => by simp [env0] at hi⟩⟩
section
variable {H : Type} {enc : TypeId × Value → H} {P : Program} {w : World} {base : Nat} {spare : Nat → Bool} {held : Bool}
theorem trodAll_stays (hl : laidOutB P = true) {W W' : World} (hheap : ∀ b, b < W.heap.size → W'.heap[b]? = W.heap[b]?) {sp' : Nat → Bool} :
    ∀ {ts : List TypeId} {vs : List Value} {ds : List (DataW H)} {ps : List MemPlace}, (∀ t ∈ ts, P.readableRec t = true ∧ t < P.types.size) → DataW.TrodAll enc P W base (fun _ => true) true ts vs ds ps → (∀ p ∈ ps, p.block < W.heap.size) → (∀ p ∈ ps, sp' p.block = true) →
      DataW.TrodAll enc P W' base sp' true ts vs ds ps
  | [], _, _, _, _, h, _, _ => by
    obtain ⟨rfl, rfl, rfl⟩ := trodAll_nil h
    exact trodAll_mk0
  | t :: ts, _, _, _, ht, h, hlt, hs => by
    obtain ⟨v, vs1, d, ds1, a, b, rfl, rfl, rfl, h1, h2⟩ := trodAll_cons h
    refine trodAll_cons_mk (WideElems.Trod_stays hl (ht t (by simp)).1 (ht t (by simp)).2 h1 (fun p hp => ?_) (fun p hp => hs p (by simp [hp]))) (trodAll_stays hl hheap (fun u hu => ht u (List.mem_cons_of_mem _ hu)) h2 (fun p hp => hlt p (by simp [hp])) (fun p hp => hs p (by simp [hp])))
    have hb := hheap p.block (hlt p (by simp [hp]))
    cases p with
    | cell b o => exact cell?_of_heap hb
    | map b => exact hb
/-- **What a law's row asks of a call that returns true and leaves what it met.** -/
theorem post_true {f : Func} {s : ChangeSpec} {W W' : World} {args : Array Value} {ds gs : List (DataW H)} {before : List MemPlace} {tb : TypeId} (hl : laidOutB P = true) (hread : ∀ t ∈ f.params.toList, P.readableRec t = true ∧ t < P.types.size)
    (hres : f.resultTypes = #[tb]) (htb : P.underlying tb = some .bool) (hvars : s.vars = []) (hspec : (s.fn H ds).results = [.lit (.bool true)] ∧ (s.fn H ds).args = ds ∧ (s.fn H ds).vars = [])
    (hW : DataW.Whole enc P f.params.toList s.vars false W args.toList ds gs before) (hheap : ∀ b, b < W.heap.size → W'.heap[b]? = W.heap[b]?) (hst : Still W W') :
    s.post enc P f false true false false W args (.bool true) W' := by
  have hlt := hW.lt
  have hW0 := hW
  obtain ⟨p, q, h1, h2, rfl, _, _⟩ := hW
  rw [hvars] at h2
  obtain ⟨rfl, rfl⟩ := trodVars_none h2
  simp only [List.append_nil] at hlt
  obtain ⟨e1, e2, e3⟩ := hspec
  refine ⟨ds, [], p ++ [], [], p, [], hW0, ?_, ?_, ?_, ?_, fun h => by cases h⟩
  · rw [List.append_nil, e1, hres]
    exact trodAll_cons_mk (RowKit.shut_bool htb _) trodAll_mk0
  · rw [List.append_nil, e2]
    exact trodAll_stays hl hheap hread h1 hlt (fun p hp => by simpa using hlt p hp)
  · rw [List.append_nil, e3, hvars]; rfl
  · refine ⟨hst.1, hst.2, fun i hi => ?_⟩
    rw [hheap i hi]
    split <;> simp_all
theorem APure.law {f : FuncId} {args : List AV} {W : World} {vs : Array Value} (hc : APure P f args (.raw (.bool true))) (ht : Tabs.is W) (hb : ∀ b, Tabs.blk b → b < W.heap.size) (hr : RepL (env0 W) args vs.toList) :
    Calls P f vs W fun x W' => x = .returned (.bool true) ∧ (∀ b, b < W.heap.size → W'.heap[b]? = W.heap[b]?) ∧ Still W W' := by
  refine ((hc (env0 W) vs (env0_ok ht hb) hr).calls (fun k => FW_room none k)).mono ?_
  rintro x w' ⟨u, e', rfl, rfl, hx, hu⟩
  rw [Rep] at hu; subst hu
  exact ⟨rfl, hx.heap, hx.still⟩
end
end Go.Ab
namespace Go.Ab
variable [Tabs]
section seq
variable {c : Ctx} {ops : Array Oper} {Q : AExit → St → Prop} {rest : List Oper} {s : St} {i : Nat}
variable {d : Option Tmp} {op : Op} {t : TypeId} {p : String} {af : Array Edge}
end seq
section cond
variable {c : Ctx} {Q : AExit → St → Prop} {s : St} {x : Operand} {y z : Code}
end cond
section split
variable {c : Ctx} {ops : Array Oper} {Q : AExit → St → Prop} {s : St} {i : Nat} {l : List Oper}
end split
section draw
variable {c : Ctx} {H0 : List AObj} {ops : Array Oper} {Q : AExit → St → Prop} {m i : Nat} {s : St} {rest : List Oper}
variable {d : Option Tmp} {op : Op} {t : TypeId} {p : String} {af : Array Edge}
end draw
section ex
variable {c : Ctx} {Q : AExit → St → Prop} {K : St → Prop} {s : St} {id j : Nat}
end ex
section app
variable {c : Ctx} {ops : Array Oper} {Q : AExit → St → Prop} {s : St} {i : Nat} {o : Oper} {l m : List Oper} {H0 : List AObj} {k : Nat}
end app
theorem W (n : Nat) {p q : Prop} (k : q) (h : Cnt n → (Unit → q) → p := by
  intro hc hk
  repeat (
    replace hc := Cnt.pred hc
    repeat (with_reducible (first | refine xn ?_ | refine sa ?_ | refine sa0 ?_ | refine aw_seq ?_ | refine aw_region ?_ | refine sq_nil ?_ | refine aw_skip ?_ | refine aw_block ?_ | refine bn ?_ | refine aw_exit ?_ | refine xe ?_ | refine be ?_ | refine bo ?_ | refine gn ?_ | refine ge ?_ | refine xr ?_ | refine br ?_ | refine gr ?_ | refine aw_label ?_ | refine aw_scope ?_))
    first
    | ((with_reducible apply sq_ev); exact rfl; exact EV)
    | ((with_reducible apply sn1); exact rfl; exact rfl; exact GD J; exact rfl)
    | ((with_reducible apply sn0); exact rfl; exact rfl; exact GD J; exact rfl)
    | ((with_reducible apply sq_yes); exact rfl; exact rfl; exact GD J; exact rfl; exact EV)
    | ((with_reducible apply su); exact rfl; exact rfl; exact J; exact rfl)
    | ((with_reducible apply sq_box); exact rfl; exact J; exact rfl)
    | ((with_reducible apply sq_alloc); exact rfl; exact ZeO.h)
    | ((with_reducible apply sq_store); exact rfl; exact J; exact J; exact rfl; exact rfl; exact TyF.h; exact rfl; exact rfl)
    | ((with_reducible refine aw_true ?_ ?_); exact GD J)
    | ((with_reducible refine aw_false ?_ ?_); exact GD J))
  repeat (with_reducible (first | refine xn ?_ | refine sa ?_ | refine sa0 ?_ | refine aw_seq ?_ | refine aw_region ?_ | refine sq_nil ?_ | refine aw_skip ?_ | refine aw_block ?_ | refine bn ?_ | refine aw_exit ?_ | refine xe ?_ | refine be ?_ | refine bo ?_ | refine gn ?_ | refine ge ?_ | refine xr ?_ | refine br ?_ | refine gr ?_ | refine aw_label ?_ | refine aw_scope ?_ | refine aw_ret ?_))
  exact hk ()) : p := h ⟨⟩ fun _ => k
end Go.Ab
namespace Hd
open Go Go.Ab Ni
theorem kdO_W {k : Int} (h : k = 1 ∨ k = 2) : kdO (kdW k) = some k := by rcases h with rfl | rfl <;> decide
theorem parseR_text {s : List UInt8} {r : Rg} (h : parseR s = some r) : textR r = s := by
  unfold parseR at h; split at h
  · split at h
    · rename_i e; cases h; exact e
    · cases h
  · cases h
end Hd
namespace Hd
open Go Go.Ab Ni
theorem cut_no {c : UInt8} : ∀ {l : List UInt8}, c ∉ l → cut c l = [l]
  | [], _ => rfl
  | b :: l, h => by
    rw [cut, if_neg (fun e => h (by simp [e])), cut_no (fun k => h (List.mem_cons_of_mem _ k))]
theorem cut_app {c : UInt8} : ∀ {w r : List UInt8}, c ∉ w → cut c (w ++ c :: r) = w :: cut c r
  | [], r, _ => by simp [cut]
  | b :: w, r, h => by
    rw [List.cons_append, cut, if_neg (fun e => h (by simp [e])), cut_app (fun k => h (List.mem_cons_of_mem _ k))]
theorem cut_pre {c : UInt8} : ∀ {ws : List (List UInt8)} {w : List UInt8}, c ∉ w → (∀ x ∈ ws, c ∉ x) → cut c (w ++ (ws.map fun x => c :: x).flatten) = w :: ws
  | [], w, h, _ => by simpa using cut_no h
  | x :: ws, w, h, k => by
    have e : w ++ ((x :: ws).map fun x => c :: x).flatten = w ++ c :: (x ++ (ws.map fun x => c :: x).flatten) := by simp
    rw [e, cut_app h, cut_pre (k x (by simp)) (fun y hy => k y (List.mem_cons_of_mem _ hy))]
theorem cut_out {c : UInt8} : ∀ {ls : List (List UInt8)} {r : List UInt8}, (∀ l ∈ ls, c ∉ l) → cut c ((ls.map fun l => l ++ [c]).flatten ++ r) = ls ++ cut c r
  | [], r, _ => by simp
  | l :: ls, r, h => by
    have e : ((l :: ls).map fun l => l ++ [c]).flatten ++ r = l ++ c :: ((ls.map fun l => l ++ [c]).flatten ++ r) := by simp
    rw [e, cut_app (h l (by simp)), cut_out (fun y hy => h y (List.mem_cons_of_mem _ hy))]; rfl
theorem numO_not {d : Nat} {w : List UInt8} {n : Int} (h : numO d w = some n) {c : UInt8} (hc : isD c = false) : c ∉ w := fun k => by
  have := List.all_eq_true.1 (numO_facts h).1 c k
  rw [hc] at this; cases this
theorem sayd_of {w : List UInt8} {n : Int} (h : numO 4 w = some n) : Sayd n := by unfold Sayd; rw [numO_word h]; exact h
theorem nums_read : ∀ {l : List Int}, (∀ n ∈ l, Sayd n) → allO (numO 4) (wordsOf l) = some l
  | [], _ => rfl
  | n :: l, h => by
    unfold wordsOf
    rw [List.map_cons, allO, show numO 4 (Lib.itoa n) = some n from h n (by simp), show allO (numO 4) (l.map Lib.itoa) = some l from nums_read fun m hm => h m (List.mem_cons_of_mem _ hm)]
theorem kinds_read : ∀ {l : List Int}, (∀ k ∈ l, k = 1 ∨ k = 2) → allO kdO (l.map kdW) = some l
  | [], _ => rfl
  | k :: l, h => by rw [List.map_cons, allO, kdO_W (h k (by simp)), kinds_read fun m hm => h m (List.mem_cons_of_mem _ hm)]
theorem words_not {l : List Int} (h : ∀ n ∈ l, Sayd n) {c : UInt8} (hc : isD c = false) : ∀ w ∈ wordsOf l, c ∉ w := fun w hw => by
  obtain ⟨n, hn, rfl⟩ := List.mem_map.1 hw
  exact numO_not (h n hn) hc
theorem kinds_not {l : List Int} {c : UInt8} (h1 : c ∉ wAlo) (h2 : c ∉ wAcr) : ∀ w ∈ l.map kdW, c ∉ w := fun w hw => by
  obtain ⟨k, _, rfl⟩ := List.mem_map.1 hw
  unfold kdW; split <;> assumption
theorem mem_pre {c : UInt8} (hc : c ≠ 32) {ws : List (List UInt8)} {w : List UInt8} (h : c ∉ w) (k : ∀ x ∈ ws, c ∉ x) : c ∉ w ++ preL ws := fun hm => by
  rcases List.mem_append.1 hm with hm | hm
  · exact h hm
  · obtain ⟨y, hy, hm⟩ := List.mem_flatten.1 hm
    obtain ⟨x, hx, rfl⟩ := List.mem_map.1 hy
    rcases List.mem_cons.1 hm with hm | hm
    · exact hc hm
    · exact k x hx hm
theorem lines_not {r : Rg} (td : TdR r) : ∀ l ∈ linesR r, (10 : UInt8) ∉ l := fun l hl => by
  unfold linesR at hl
  rcases List.mem_cons.1 hl with rfl | hl
  · unfold lnReg; rw [join_eq]; exact mem_pre (by decide) (by decide) (words_not td.head (by decide))
  · rcases List.mem_cons.1 hl with rfl | hl
    · unfold lnMea; rw [join_eq]; exact mem_pre (by decide) (by decide) (kinds_not (by decide) (by decide))
    · obtain ⟨h, hh, rfl⟩ := List.mem_map.1 hl
      unfold lnHid; rw [join_eq]; exact mem_pre (by decide) (by decide) (words_not (td.hide h hh) (by decide))
theorem reg_cut {r : Rg} (td : TdR r) : cut 32 (lnReg r) = wReg :: wordsOf (l6 r) := by
  unfold lnReg; rw [join_eq]; exact cut_pre (by decide) (words_not td.head (by decide))
theorem mea_cut (r : Rg) : cut 32 (lnMea r) = wMea :: r.kinds.map kdW := by
  unfold lnMea; rw [join_eq]; exact cut_pre (by decide) (kinds_not (by decide) (by decide))
theorem hid_cut {h : List Int} (hh : ∀ n ∈ h, Sayd n) : cut 32 (lnHid h) = wHid :: wordsOf h := by
  unfold lnHid; rw [join_eq]; exact cut_pre (by decide) (words_not hh (by decide))
theorem hides_read : ∀ {l : List (List Int)}, (∀ h ∈ l, ∀ n ∈ h, Sayd n) → allO numsR (l.map lnHid) = some l
  | [], _ => rfl
  | h :: l, k => by
    rw [List.map_cons, allO, hides_read fun x hx => k x (List.mem_cons_of_mem _ hx)]
    have : numsR (lnHid h) = some h := by unfold numsR; rw [hid_cut (k h (by simp)), List.drop_succ_cons, List.drop_zero, nums_read (k h (by simp))]
    rw [this]
def endL (c : Int) : List UInt8 := [101, 110, 100, 32] ++ digs3 c
theorem itoa_not {n : Int} (h : 0 ≤ n ∧ n ≤ 1399) {c : UInt8} (hc : isD c = false) : c ∉ Lib.itoa n := numO_not (itoa_four h).1 hc
theorem end_not {c : Int} (h : 0 ≤ c ∧ c ≤ 999) : (10 : UInt8) ∉ endL c := by
  have a1 := itoa_not (n := c / 100) (by omega) (c := 10) (by decide)
  have a2 := itoa_not (n := c / 10 % 10) (by omega) (c := 10) (by decide)
  have a3 := itoa_not (n := c % 10) (by omega) (c := 10) (by decide)
  unfold endL digs3
  simp [a1, a2, a3]
theorem seal_cut {ls : List (List UInt8)} (h : ∀ l ∈ ls, (10 : UInt8) ∉ l) : cut 10 (sealR ls) = ls ++ [endL (ctT ls ls.length % 199), []] := by
  have e : sealR ls = (ls.map fun l => l ++ [10]).flatten ++ (endL (ctT ls ls.length % 199) ++ 10 :: []) := by
    unfold sealR outT endL; rw [List.take_length]; simp
  rw [e, cut_out h, cut_app (end_not (by omega))]; rfl
/-- **A text is read as its register.** -/
theorem parse_text {r : Rg} (td : TdR r) : parseR (textR r) = some r := by
  have hc : cut 10 (textR r) = lnReg r :: lnMea r :: ((r.hides.map lnHid) ++ [endL (ctT (linesR r) (linesR r).length % 199), []]) := by
    unfold textR; rw [seal_cut (lines_not td)]; rfl
  have hr : rowsR (textR r) = some r := by
    unfold rowsR
    rw [hc]
    simp only
    rw [if_pos (by simp), List.length_append, show ([endL (ctT (linesR r) (linesR r).length % 199), ([] : List UInt8)]).length = 2 from rfl, Nat.add_sub_cancel, List.take_left', hides_read td.hide]
    · have h1 : headO (lnReg r) = some (l6 r) := by unfold headO numsR; rw [reg_cut td, List.drop_succ_cons, List.drop_zero, nums_read td.head]; rfl
      have h2 : kindsO (lnMea r) = some r.kinds := by unfold kindsO; rw [mea_cut, List.drop_succ_cons, List.drop_zero, kinds_read td.kind]
      rw [h1, h2]; rfl
    · rfl
  unfold parseR; rw [hr]; simp
theorem allO_mem {α β : Type} {f : α → Option β} {ws : List α} {q : List β} (h : allO f ws = some q) {x : β} (hx : x ∈ q) : ∃ w ∈ ws, f w = some x := by
  obtain ⟨h1, h2⟩ := allO_inv h
  obtain ⟨i, hi, rfl⟩ := List.getElem_of_mem hx
  exact ⟨ws[i], List.getElem_mem (by omega), h2 i hi (by omega)⟩
theorem numsR_td {row : List UInt8} {l : List Int} (h : numsR row = some l) : ∀ n ∈ l, Sayd n := fun n hn => by
  obtain ⟨w, _, hw⟩ := allO_mem h hn
  exact sayd_of hw
end Hd
namespace Go.Proofs.YtjpokekbjmdgmaaGreatDoor
open Go Go.Ab Ni Hd
theorem rin_pure (n lo hi : Int) : APure Tryz.prog 74 [I n, I lo, I hi] (B (inn n lo hi)) := by
  refine ap Tryz.func74 (fun e0 he0 => ?_)
  refine wz 5 ?_
  refine sz 10 (fun g1 g1' => ?_) (fun g1 g1' => ?_)
  ·refine wz 5 ?_
   exact rz rfl (Less.eq (by simp [inn, *]))
  refine wz 5 ?_
  exact rz rfl (Less.eq (by simp [inn, *]))
end Go.Proofs.YtjpokekbjmdgmaaGreatDoor
namespace Go.Proofs.YtjpokekbjmdgmaaGreatDoor
open Go Go.Ab Ni Hd
def printE (r : Rg) : List UInt8 × Int := if rgOK r = true then (textR r, 0) else ([], 2)
theorem print_pure (r : Rg) (hk : r.kinds.length ≤ 1000000) (hh : r.hides.length ≤ 1000000) (hw : ∀ h ∈ r.hides, h.length ≤ 1000000) : APure Tryz.prog 61 [rgA r] (.tup [S (printE r).1, I (printE r).2]) := by
  refine ap Tryz.func61 (fun e0 he0 => ?_)
  refine wz 4 ?_
  refine kz az (isregister_pure r hk hh hw) ?_
  refine wz 1 ?_
  refine iz (fun c_6 c_6' => ?_) (fun c_6 c_6' => ?_)
  ·have hro : rgOK r = false := by simpa using c_6
   have he : printE r = ([], 2) := by unfold printE; rw [hro]; rfl
   refine wz 2 ?_
   exact retQ_pure (v := .tup [.raw _, .raw _]) rfl rfl (less_tup ⟨Less.eq (by rw [he]), Less.eq (by rw [he]), trivial⟩)
  have hro : rgOK r = true := by simpa using c_6
  have he : printE r = (textR r, 0) := by unfold printE; rw [if_pos hro]
  refine wz 1 ?_
  refine kz az (text_pure (sm_ok hro)) ?_
  refine wz 2 ?_
  exact retQ_pure (v := .tup [.raw _, .raw _]) rfl rfl (less_tup ⟨Less.eq (by rw [he]), Less.eq (by rw [he]), trivial⟩)
end Go.Proofs.YtjpokekbjmdgmaaGreatDoor
namespace Go.Proofs.YtjpokekbjmdgmaaGreatDoor
open Go Go.Ab Ni Hd
instance en121 : EnT Tryz.prog 121 := ⟨Ent.of Tryz.func121 (by kernel_rfl) rfl⟩
instance en64 : EnT Tryz.prog 64 := ⟨Ent.of Tryz.func64 (by kernel_rfl) rfl⟩
def shB (r : Rg) : Bool := decide ((r.kinds.length ≤ 8 ∧ r.hides.length ≤ 8) ∧ ∀ i, (hi : i < r.hides.length) → i < 9 → r.hides[i].length ≤ 10)
theorem shB_fin {r : Rg} (h3 : ∀ i, (hi : i < r.hides.length) → i < 9 → r.hides[i].length ≤ 10) : shB r = (decide (r.kinds.length ≤ 8) && decide (r.hides.length ≤ 8)) := by
  rw [Bool.eq_iff_iff]; unfold shB; simp only [decide_eq_true_eq, Bool.and_eq_true]
  exact ⟨fun h => h.1, fun h => ⟨h, h3⟩⟩
theorem shB_row {r : Rg} {i : Nat} (hi : i < r.hides.length) (h9 : i < 9) (h : ¬ r.hides[i].length ≤ 10) : shB r = false := decide_eq_false fun q => h (q.2 i hi h9)
theorem rg_kind {r : Rg} {i : Nat} (hi : i < r.kinds.length) (h : kdOK r.kinds[i] = false) : rgOK r = false := by
  have e : r.kinds.all kdOK = false := by rw [List.all_eq_false]; exact ⟨_, List.getElem_mem hi, by rw [h]; simp⟩
  unfold rgOK; rw [e]; simp
theorem rg_hide {r : Rg} {i : Nat} (hi : i < r.hides.length) (h : hdOK r.kinds.length r.hides[i] = false) : rgOK r = false := by
  have e : r.hides.all (hdOK r.kinds.length) = false := by rw [List.all_eq_false]; exact ⟨_, List.getElem_mem hi, by rw [h]; simp⟩
  unfold rgOK; rw [e]; simp
theorem hd_len {w : Nat} {h : List Int} (e : h.length ≠ w) : hdOK w h = false := by unfold hdOK; rw [decide_eq_false e]; rfl
theorem hd_num {w : Nat} {h : List Int} {j : Nat} (hj : j < h.length) (e : inn h[j] 1 500 = false) : hdOK w h = false := by
  have q : (h.all fun n => inn n 1 500) = false := by rw [List.all_eq_false]; exact ⟨_, List.getElem_mem hj, by rw [e]; simp⟩
  unfold hdOK; rw [q]; simp
theorem hd_yes {w : Nat} {h : List Int} (e : h.length = w) (k : ∀ j, (hj : j < h.length) → inn h[j] 1 500 = true) : hdOK w h = true := by
  unfold hdOK; rw [decide_eq_true e, List.all_eq_true.2 fun x hx => by obtain ⟨j, hj, rfl⟩ := List.getElem_of_mem hx; exact k j hj]; rfl
theorem all_of {α : Type} {q : α → Bool} {l : List α} (h : ∀ j, (hj : j < l.length) → q l[j] = true) : l.all q = true := List.all_eq_true.2 fun x hx => by obtain ⟨j, hj, rfl⟩ := List.getElem_of_mem hx; exact h j hj
theorem short_pure (r : Rg) : APure Tryz.prog 20 [rgA r] (B (shB r)) := by
  refine ap Tryz.func20 (fun e0 he0 => ?_)
  refine wz 3 ?_
  refine aw_loopk (ι := { k : Nat // k ≤ r.hides.length ∧ k ≤ 9 ∧ ∀ i, (hi : i < r.hides.length) → i < k → r.hides[i].length ≤ 10 }) [1] (fun i => [(3, I i.1)]) (fun H i => H) (fun i => r.hides.length - i.1) (⟨0, Nat.zero_le _, by omega, by omega⟩) ⟨jz, jz, trivial⟩ rfl ?_
  rintro ⟨k, hk, hk9, hok⟩
  refine nz ?_
  refine wz 6 ?_
  refine sz 9 (fun g2_5 g2_5' => ?_) (fun g2_5 g2_5' => ?_)
  ·have hkl : k < r.hides.length := by omega
   refine wz 3 ?_
   refine iz (fun c_12 c_12' => ?_) (fun c_12 c_12' => ?_)
   ·have hk9b : k < 9 := by have := of_decide_eq_true c_12; omega
    refine wz 7 ?_
    refine iz (fun c_21 c_21' => ?_) (fun c_21 c_21' => ?_)
    ·have hbad := shB_row hkl hk9b (by omega)
     refine wz 1 ?_
     exact rz rfl (Less.eq (by rw [hbad]))
    refine wz 3 ?_
    exact ⟨⟨k + 1, by omega, by omega, fun i hi h => (by by_cases e : i = k; (subst e; omega); exact hok i hi (by omega))⟩, by simp only; omega, Sub.slots ⟨jz, jz, trivial⟩⟩
   refine wz 5 ?_
   refine sz 26 (fun g6_4 g6_4' => ?_) (fun g6_4 g6_4' => ?_)
   ·refine wz 6 ?_
    exact rz rfl (Less.eq (congrArg B (by have h9 := of_decide_eq_false c_12; rw [shB_fin (fun i hi h8 => hok i hi (by omega)), Bool.eq_iff_iff]; simp; omega)))
   refine wz 6 ?_
   exact rz rfl (Less.eq (congrArg B (by have h9 := of_decide_eq_false c_12; rw [shB_fin (fun i hi h8 => hok i hi (by omega)), Bool.eq_iff_iff]; simp; omega)))
  obtain rfl : k = r.hides.length := by omega
  refine wz 9 ?_
  refine sz 26 (fun g6_4 g6_4' => ?_) (fun g6_4 g6_4' => ?_)
  ·refine wz 6 ?_
   exact rz rfl (Less.eq (congrArg B (by rw [shB_fin (fun i hi _ => hok i hi hi), Bool.eq_iff_iff]; simp; omega)))
  refine wz 6 ?_
  exact rz rfl (Less.eq (congrArg B (by rw [shB_fin (fun i hi _ => hok i hi hi), Bool.eq_iff_iff]; simp; omega)))
theorem rspan_pure (a b : Int) (ha : -1000000 ≤ a ∧ a ≤ 1000000 ∨ True) : APure Tryz.prog 75 [.agg [I a, I b]] (B (spOK a b)) := by
  refine ap Tryz.func75 (fun e0 he0 => ?_)
  refine vz 2 ?_
  refine sq_nil ?_
  refine aw_seq ?_
  have hin : ∀ x lo hi : Int, inn x lo hi = true ↔ lo ≤ x ∧ x ≤ hi := fun x lo hi => by unfold inn; simp
  refine wz 2 ?_
  refine kz az (rin_pure _ _ _) ?_
  refine wz 1 ?_
  refine sz 6 (fun g1_3 g1_3' => ?_) (fun g1_3 g1_3' => ?_)
  ·have h1 := (hin _ _ _).1 g1_3
   refine wz 4 ?_
   refine ky az (rin_pure _ _ _) ?_
   refine wz 2 ?_
   refine sz 13 (fun g1_10 g1_10' => ?_) (fun g1_10 g1_10' => ?_)
   ·have h2 := (hin _ _ _).1 g1_10
    refine wz 8 ?_
    exact rz rfl (Less.eq (by unfold spOK; simp [*]))
   refine wz 8 ?_
   exact rz rfl (Less.eq (by unfold spOK; simp [*]))
  refine wz 15 ?_
  exact rz rfl (Less.eq (by unfold spOK; simp [*]))
theorem register_pure (r : Rg) (hk : r.kinds.length ≤ 1000000) (hh : r.hides.length ≤ 1000000) (hw : ∀ h ∈ r.hides, h.length ≤ 1000000) : APure Tryz.prog 21 [rgA r] (B (rgOK r)) := by
  refine ap Tryz.func21 (fun e0 he0 => ?_)
  refine wz 5 ?_
  refine kz az (rin_pure _ _ _) ?_
  refine wz 2 ?_
  refine sz 11 (fun g1_5 g1_5' => ?_) (fun g1_5 g1_5' => ?_)
  ·refine wz 8 ?_
   exact rz rfl (Less.eq (by unfold rgOK; simp_all))
  refine wz 3 ?_
  refine ky az (rin_pure _ _ _) ?_
  refine wz 2 ?_
  refine iz (fun c_17 c_17' => ?_) (fun c_17 c_17' => ?_)
  ·refine wz 1 ?_
   exact rz rfl (Less.eq (by unfold rgOK; simp_all))
  refine wz 1 ?_
  refine aw_loopk (ι := { k : Nat // k ≤ r.kinds.length ∧ ∀ i, (hi : i < r.kinds.length) → i < k → kdOK r.kinds[i] = true }) [1] (fun i => [(3, I i.1)]) (fun H i => H) (fun i => r.kinds.length - i.1) (⟨0, Nat.zero_le _, by omega⟩) ⟨jz, jz, trivial⟩ rfl ?_
  rintro ⟨k, hkk, hok⟩
  refine nz ?_
  refine wz 5 ?_
  refine iz (fun c_22 c_22' => ?_) (fun c_22 c_22' => ?_)
  ·have hkl : k < r.kinds.length := by omega
   refine wz 7 ?_
   refine sz 31 (fun g6_6 g6_6' => ?_) (fun g6_6 g6_6' => ?_)
   ·refine wz 7 ?_
    refine iz (fun c_38 c_38' => ?_) (fun c_38 c_38' => ?_)
    ·have hbad := rg_kind hkl (by unfold kdOK; have h5 := of_decide_eq_true c_38; exact decide_eq_false (by omega))
     refine wz 1 ?_
     exact rz rfl (Less.eq (by rw [hbad]))
    have hkd : kdOK r.kinds[k] = true := by unfold kdOK; have h5 := of_decide_eq_false c_38; exact decide_eq_true (by omega)
    refine wz 3 ?_
    exact ⟨⟨k + 1, by omega, fun i hi h => (by by_cases e : i = k; (subst e; exact hkd); exact hok i hi (by omega))⟩, by simp only; omega, Sub.slots ⟨jz, jz, trivial⟩⟩
   have hkd : kdOK r.kinds[k] = true := by unfold kdOK; exact decide_eq_true (by omega)
   refine wz 11 ?_
   exact ⟨⟨k + 1, by omega, fun i hi h => (by by_cases e : i = k; (subst e; exact hkd); exact hok i hi (by omega))⟩, by simp only; omega, Sub.slots ⟨jz, jz, trivial⟩⟩
  obtain rfl : k = r.kinds.length := by omega
  have hall1 : r.kinds.all kdOK = true := all_of fun j hj => hok j hj hj
  refine wz 1 ?_
  refine aw_loopk (ι := { k : Nat // k ≤ r.hides.length ∧ ∀ i, (hi : i < r.hides.length) → i < k → hdOK r.kinds.length r.hides[i] = true }) [1] (fun i => [(4, I i.1)]) (fun H i => H) (fun i => r.hides.length - i.1) (⟨0, Nat.zero_le _, by omega⟩) ⟨jz, jz, trivial⟩ rfl ?_
  rintro ⟨k, hkh, hok2⟩
  refine nz ?_
  refine wz 5 ?_
  refine iz (fun c_43 c_43' => ?_) (fun c_43 c_43' => ?_)
  ·have hhl : k < r.hides.length := by omega
   have hwl := hw _ (List.getElem_mem hhl)
   refine wz 0 ?_
   refine aw_draw 10 mo (by kernel_rfl) ?_
   refine dz 10 ?_
   refine wz 0 ?_
   refine iz (fun c_55 c_55' => ?_) (fun c_55 c_55' => ?_)
   ·have hbad := rg_hide hhl (hd_len (by omega))
    refine wz 1 ?_
    exact rz rfl (Less.eq (by rw [hbad]))
   have hle : r.hides[k].length = r.kinds.length := by omega
   refine wz 1 ?_
   refine aw_loopk (ι := { j : Nat // j ≤ r.hides[k].length ∧ ∀ i, (hi : i < r.hides[k].length) → i < j → inn r.hides[k][i] 1 500 = true }) [1, 4] (fun u => [(5, I u.1)]) (fun H u => H) (fun u => r.hides[k].length - u.1) (⟨0, Nat.zero_le _, by omega⟩) ⟨jz, jz, jz, trivial⟩ rfl ?_
   rintro ⟨j, hj, hok3⟩
   refine nz ?_
   refine wz 8 ?_
   refine iz (fun c_63 c_63' => ?_) (fun c_63 c_63' => ?_)
   ·have hjl : j < r.hides[k].length := by omega
    refine wz 8 ?_
    refine kz az (rin_pure _ _ _) ?_
    refine wz 1 ?_
    refine iz (fun c_75 c_75' => ?_) (fun c_75 c_75' => ?_)
    ·have hbad := rg_hide hhl (hd_num hjl (by simpa using c_75))
     refine wz 1 ?_
     exact rz rfl (Less.eq (by rw [hbad]))
    have hin : inn r.hides[k][j] 1 500 = true := by simpa using c_75
    refine wz 3 ?_
    exact ⟨⟨j + 1, by omega, fun i hi h => (by by_cases e : i = j; (subst e; exact hin); exact hok3 i hi (by omega))⟩, by simp only; omega, Sub.slots ⟨jz, jz, jz, trivial⟩⟩
   obtain rfl : j = r.hides[k].length := by omega
   refine wz 3 ?_
   exact ⟨⟨k + 1, by omega, fun i hi h => (by by_cases e : i = k; (subst e; exact hd_yes hle fun j hj => hok3 j hj hj); exact hok2 i hi (by omega))⟩, by simp only; omega, Sub.slots ⟨jz, jz, trivial⟩⟩
  obtain rfl : k = r.hides.length := by omega
  have hall2 : r.hides.all (hdOK r.kinds.length) = true := all_of fun j hj => hok2 j hj hj
  refine wz 2 ?_
  refine kz az (rspan_pure _ _ (.inr trivial)) ?_
  refine wz 1 ?_
  refine sz 79 (fun g18_3 g18_3' => ?_) (fun g18_3 g18_3' => ?_)
  ·refine wz 2 ?_
   refine ky az (rspan_pure _ _ (.inr trivial)) ?_
   refine wz 2 ?_
   refine sz 84 (fun g18_8 g18_8' => ?_) (fun g18_8 g18_8' => ?_)
   ·refine wz 2 ?_
    refine ky az (rin_pure _ _ _) ?_
    refine wz 2 ?_
    refine sz 89 (fun g18_13 g18_13' => ?_) (fun g18_13 g18_13' => ?_)
    ·refine wz 2 ?_
     refine ky az (rin_pure _ _ _) ?_
     refine wz 2 ?_
     exact rz rfl (Less.eq (by unfold rgOK; rw [hall1, hall2]; simp_all))
    refine wz 5 ?_
    exact rz rfl (Less.eq (by unfold rgOK; rw [hall1, hall2]; simp_all))
   refine wz 10 ?_
   exact rz rfl (Less.eq (by unfold rgOK; rw [hall1, hall2]; simp_all))
  refine wz 15 ?_
  exact rz rfl (Less.eq (by unfold rgOK; rw [hall1, hall2]; simp_all))
theorem samel_pure (l : List (List Int)) (hl : l.length ≤ 1000000) (hw : ∀ h ∈ l, h.length ≤ 1000000) : APure Tryz.prog 121 [hds l, hds l] (B true) := by
  refine ap Tryz.func121 (fun e0 he0 => ?_)
  refine wz 6 ?_
  refine iz (fun c_10 c_10' => ?_) (fun c_10 c_10' => ?_)
  ·exfalso
   simp at c_10
  refine wz 1 ?_
  refine aw_loopk (ι := { k : Nat // k ≤ l.length }) [0, 1] (fun i => [(5, I i.1)]) (fun H i => H) (fun i => l.length - i.1) (⟨0, Nat.zero_le _⟩) ⟨jz, jz, jz, trivial⟩ rfl ?_
  rintro ⟨k, hk⟩
  refine nz ?_
  refine wz 4 ?_
  refine iz (fun c_14 c_14' => ?_) (fun c_14 c_14' => ?_)
  ·have hkl : k < l.length := by omega
   refine wz 0 ?_
   refine aw_draw 10 mo (by kernel_rfl) ?_
   refine dz 8 ?_
   refine dkz az (same_t (hw _ (List.getElem_mem hkl)) (hw _ (List.getElem_mem hkl)) rfl) ?_
   refine dz 1 ?_
   refine wz 0 ?_
   refine iz (fun c_26 c_26' => ?_) (fun c_26 c_26' => ?_)
   ·exfalso
    simp at c_26
   refine wz 3 ?_
   exact ⟨⟨k + 1, by omega⟩, by simp only; omega, Sub.slots ⟨jz, jz, jz, trivial⟩⟩
  refine wz 1 ?_
  exact rz rfl (Less.eq rfl)
theorem samer_pure (r : Rg) (hk : r.kinds.length ≤ 1000000) (hh : r.hides.length ≤ 1000000) (hw : ∀ h ∈ r.hides, h.length ≤ 1000000) : APure Tryz.prog 64 [rgA r, rgA r] (B true) := by
  refine ap Tryz.func64 (fun e0 he0 => ?_)
  refine wz 9 ?_
  refine sz 11 (fun g1_5 g1_5' => ?_) (fun g1_5 g1_5' => ?_)
  ·exfalso
   first | omega | simp_all
  refine wz 7 ?_
  refine sz 18 (fun g1_12 g1_12' => ?_) (fun g1_12 g1_12' => ?_)
  ·exfalso
   first | omega | simp_all
  refine wz 4 ?_
  refine sq_yes rfl rfl (less_b g1_12) rfl (ev_neq25 jz jz) ?_
  refine wz 2 ?_
  refine sz 25 (fun g1_19 g1_19' => ?_) (fun g1_19 g1_19' => ?_)
  ·exfalso
   first | omega | simp_all
  refine wz 4 ?_
  refine sq_yes rfl rfl (less_b g1_19) rfl (ev_neq25 jz jz) ?_
  refine wz 2 ?_
  refine sz 32 (fun g1_26 g1_26' => ?_) (fun g1_26 g1_26' => ?_)
  ·exfalso
   first | omega | simp_all
  refine wz 8 ?_
  refine iz (fun c_40 c_40' => ?_) (fun c_40 c_40' => ?_)
  ·exfalso
   first | omega | simp_all
  refine wz 1 ?_
  refine aw_loopk (ι := { k : Nat // k ≤ r.kinds.length }) [2, 3] (fun i => [(5, I i.1)]) (fun H i => H) (fun i => r.kinds.length - i.1) (⟨0, Nat.zero_le _⟩) ⟨jz, jz, jz, trivial⟩ rfl ?_
  rintro ⟨k, hkk⟩
  refine nz ?_
  refine wz 5 ?_
  refine iz (fun c_45 c_45' => ?_) (fun c_45 c_45' => ?_)
  ·have hkl : k < r.kinds.length := by omega
   refine wz 0 ?_
   refine aw_draw 11 mo (by kernel_rfl) ?_
   refine dz 11 ?_
   refine wz 0 ?_
   refine iz (fun c_58 c_58' => ?_) (fun c_58 c_58' => ?_)
   ·exfalso
    simp at c_58
   refine wz 3 ?_
   exact ⟨⟨k + 1, by omega⟩, by simp only; omega, Sub.slots ⟨jz, jz, jz, trivial⟩⟩
  refine wz 4 ?_
  refine kz az (samel_pure r.hides hh hw) ?_
  refine wz 1 ?_
  exact rz rfl jz
end Go.Proofs.YtjpokekbjmdgmaaGreatDoor
namespace Go.Proofs.YtjpokekbjmdgmaaGreatDoor
open Go Go.Ab Ni Hd
instance en61 : EnT Tryz.prog 61 := ⟨Ent.of Tryz.func61 (by kernel_rfl) rfl⟩
end Go.Proofs.YtjpokekbjmdgmaaGreatDoor
namespace Go.Proofs.YtjpokekbjmdgmaaGreatDoor
open Go Go.Ab Ni Hd
def frm (now : List Int) : Nat := if h : 0 < now.length then (now[now.length - 1]).toNat + 1 else 0
end Go.Proofs.YtjpokekbjmdgmaaGreatDoor
namespace Go.Proofs.YtjpokekbjmdgmaaGreatDoor
open Go Go.Ab Ni Hd
instance en122 : EnT Tryz.prog 122 := ⟨Ent.of Tryz.func122 (by kernel_rfl) rfl⟩
instance en123 : EnT Tryz.prog 123 := ⟨Ent.of Tryz.func123 (by kernel_rfl) rfl⟩
instance en157 : EnT Tryz.prog 157 := ⟨Ent.of Tryz.func157 (by kernel_rfl) rfl⟩
theorem bs_extract (s : List UInt8) (lo hi : Nat) : (⟨s.toArray⟩ : ByteArray).extract lo hi = ⟨((s.take hi).drop lo).toArray⟩ := by
  apply ByteArray.ext
  rw [ByteArray.data_extract]
  apply Array.ext'
  simp [List.drop_take]
theorem cut_piece {c : UInt8} {s : List UInt8} {f i : Nat} (hf : f ≤ i) (hi : i < s.length) (hc : s[i] = c) (hn : ∀ j (h : j < s.length), f ≤ j → j < i → s[j] ≠ c) : cut c (s.drop f) = ((s.take i).drop f) :: cut c (s.drop (i + 1)) := by
  have e : s.drop f = (s.take i).drop f ++ c :: s.drop (i + 1) := by
    have h1 : s.take i ++ s.drop i = s := List.take_append_drop i s
    have h2 : s.drop i = c :: s.drop (i + 1) := by rw [← hc]; exact List.drop_eq_getElem_cons hi
    conv => lhs; rw [← h1, h2, List.drop_append_of_le_length (by simp; omega)]
  rw [e]
  refine cut_app fun hm => ?_
  obtain ⟨j, hj, ej⟩ := List.getElem_of_mem hm
  rw [List.length_drop, List.length_take] at hj
  rw [List.getElem_drop, List.getElem_take] at ej
  exact hn (f + j) (by omega) (by omega) (by omega) ej
theorem cut_last {c : UInt8} {s : List UInt8} {f : Nat} (hn : ∀ j (h : j < s.length), f ≤ j → s[j] ≠ c) : cut c (s.drop f) = [s.drop f] := by
  refine cut_no fun hm => ?_
  obtain ⟨j, hj, ej⟩ := List.getElem_of_mem hm
  rw [List.length_drop] at hj
  rw [List.getElem_drop] at ej
  exact hn (f + j) (by omega) (by omega) ej
theorem u8_ne {a c : UInt8} (h : ¬ (a.toNat : Int) = c.toNat) : a ≠ c := fun e => h (by rw [e])
theorem u8_eq {a c : UInt8} (h : (a.toNat : Int) = c.toNat) : a = c := UInt8.toNat_inj.1 (by omega)
theorem cut_step {c : UInt8} {s : List UInt8} {f i : Nat} {out : List (List UInt8)} (hfi : f ≤ i) (hi : i < s.length) (hc : s[i] = c) (hn : ∀ j (h : j < s.length), f ≤ j → j < i → s[j] ≠ c) (he : out ++ cut c (s.drop f) = cut c s) : (out ++ [(s.take i).drop f]) ++ cut c (s.drop (i + 1)) = cut c s := by
  rw [← he, cut_piece hfi hi hc hn]; simp
theorem none_ext {c : UInt8} {s : List UInt8} {f i : Nat} (h2 : ∀ h : i < s.length, s[i] ≠ c) (hn : ∀ j (h : j < s.length), f ≤ j → j < i → s[j] ≠ c) : ∀ j (h : j < s.length), f ≤ j → j < i + 1 → s[j] ≠ c := fun j h h1 h3 => by
  by_cases e : j = i
  · subst e; exact h2 h
  · exact hn j h h1 (by omega)
theorem valN_9999 {l : List UInt8} {k : Nat} (hk : k ≤ l.length) (h4 : k ≤ 4) (h : ∀ i, (h : i < l.length) → i < k → isD l[i] = true) : 0 ≤ valN (l.take k) ∧ valN (l.take k) < 10000 := by
  have h1 := valN_bd hk h
  have h2 : (10 ^ k : Nat) ≤ 10 ^ 4 := Nat.pow_le_pow_right (by decide) h4
  omega
def numQ (d : Nat) (w : List UInt8) : Int × Bool := if w = [] ∨ d < w.length then (0, false) else if ¬ w.all isD = true then (0, false) else (valN w, decide (Lib.itoa (valN w) = w))
theorem numQ_some {d : Nat} {w : List UInt8} {n : Int} (h : numO d w = some n) : numQ d w = (n, true) := by
  unfold numO at h
  split at h
  · rename_i g
    simp only [Option.some.injEq] at h; subst h
    unfold numQ
    rw [if_neg (by intro k; rcases k with k | k; exact g.2.2.1 k; omega), if_neg (by simpa using g.1), decide_eq_true g.2.2.2]
  · cases h
theorem numQ_none {d : Nat} {w : List UInt8} (h : numO d w = none) : (numQ d w).2 = false := by
  unfold numO at h
  split at h
  · cases h
  · rename_i g
    unfold numQ
    split
    · rfl
    · split
      · rfl
      · rename_i g1 g2
        simp only [decide_eq_false_iff_not]
        intro e
        exact g ⟨Decidable.not_not.1 g2, by omega, fun k => g1 (.inl k), e⟩
theorem numQ_long {d : Nat} {w : List UInt8} (h : w = [] ∨ d < w.length) : numQ d w = (0, false) := by unfold numQ; rw [if_pos h]
theorem numQ_dig {d : Nat} {w : List UInt8} {k : Nat} (hk : k < w.length) (h : isD w[k] = false) : numQ d w = (0, false) := by
  unfold numQ
  split
  · rfl
  · rw [if_pos (by intro g; have := List.all_eq_true.1 g _ (List.getElem_mem hk); rw [h] at this; cases this)]
theorem numQ_end {d : Nat} {w : List UInt8} (h : ¬ (w = [] ∨ d < w.length)) (hd : ∀ i, (h : i < w.length) → isD w[i] = true) : numQ d w = (valN w, decide (Lib.itoa (valN w) = w)) := by
  unfold numQ
  rw [if_neg h, if_neg (by
    simp only [Decidable.not_not, List.all_eq_true]
    intro x hx
    obtain ⟨i, hi, rfl⟩ := List.getElem_of_mem hx
    exact hd i hi)]
theorem numQ_T {d : Nat} {w : List UInt8} (h : (numQ d w).2 = true) : numO d w = some (numQ d w).1 := by
  cases e : numO d w with
  | none => rw [numQ_none e] at h; cases h
  | some n => rw [numQ_some e]
theorem numQ_F {d : Nat} {w : List UInt8} (h : (numQ d w).2 = false) : numO d w = none := by
  cases e : numO d w with
  | none => rfl
  | some n => rw [numQ_some e] at h; cases h
def numsV (d : Nat) (ws : List (List UInt8)) : List Int := (allO (numO d) ws).getD []
def numsK (d : Nat) (ws : List (List UInt8)) (k : Nat) : List Int := (ws.take k).map fun w => (numQ d w).1
theorem numsK_succ {d : Nat} {ws : List (List UInt8)} {k : Nat} (h : k < ws.length) : numsK d ws (k + 1) = numsK d ws k ++ [(numQ d ws[k]).1] := by unfold numsK; rw [List.take_succ_eq_append_getElem h, List.map_append]; rfl
theorem numsK_len (d : Nat) (ws : List (List UInt8)) (k : Nat) : (numsK d ws k).length ≤ ws.length := by unfold numsK; rw [List.length_map, List.length_take]; omega
theorem numsK_all {d : Nat} {ws : List (List UInt8)} (h : ∀ i, (h : i < ws.length) → i < ws.length → numO d ws[i] = some (numQ d ws[i]).1) : allO (numO d) ws = some (numsK d ws ws.length) :=
  allO_ok (by unfold numsK; simp) fun i h1 h2 => by rw [h i h2 h2]; simp [numsK]
theorem rsplit_pure (s : List UInt8) (c : UInt8) (hs : s.length ≤ 1000000) : APure Tryz.prog 122 [S s, .raw (.int .u8 c.toNat)] (.sl 1 ((cut c s).map fun p => [S p])) := by
  refine ap Tryz.func122 (fun e0 he0 => ?_) (hr := by simp [AV.pureL, AV.pureB, AV.pureE, pureE_map])
  refine vz 4 ?_
  refine sq_nil ?_
  refine aw_block ?_
  refine aw_sub (sub_token 5 1 jz) ?_
  refine aw_loopk (ι := { x : Nat × Nat × List (List UInt8) // (x.1 ≤ s.length ∧ x.2.1 ≤ x.1) ∧ (∀ j, (h : j < s.length) → x.2.1 ≤ j → j < x.1 → s[j] ≠ c) ∧ x.2.2 ++ cut c (s.drop x.2.1) = cut c s }) [0, 1] (fun x => [(7, I x.1.1), (6, I x.1.2.1), (5, .own 0 1 ((x.1.2.2).map (fun p => [S p])))]) (fun H x => [.tok (x.1.2.2.map (fun p => [S p])).length]) (fun x => s.length - x.1.1) (⟨(0, 0, []), ⟨Nat.zero_le _, Nat.le_refl _⟩, fun j _ _ h => by simp at h, by simp⟩) ⟨jz, jz, jz, jz, jz, trivial⟩ rfl ?_
  rintro ⟨⟨i, f, out⟩, ⟨hi, hfi⟩, hno, hcut⟩
  refine nz ?_
  simp only at hi hfi hno hcut
  have hcl := cut_len c s
  have hol : out.length ≤ s.length + 1 := by have := congrArg List.length hcut; rw [List.length_append] at this; omega
  refine wz 4 ?_
  refine iz (fun c_11 c_11' => ?_) (fun c_11 c_11' => ?_)
  ·have hiL : i < s.length := by omega
   refine wz 5 ?_
   refine iz (fun c_18 c_18' => ?_) (fun c_18 c_18' => ?_)
   ·refine wz 4 ?_
    refine sq_ev rfl (ev_less (ev_slice_str (s := ⟨s.toArray⟩) (lo := f) (hi := i) Tryz.underlying9 jz jz jz hfi (by rw [bs_size]; omega)) (Less.eq (b := S ((s.take i).drop f)) (by rw [bs_extract]))) ?_
    refine sq_ev rfl (ev_buildSlice (es := [[_]]) sf164.h rfl rfl rfl rfl) ?_
    first | refine sq_append rfl sf164.h Tryz.underlying164 rfl rfl jz (Nat.succ_pos _) (by simp; omega) (by simp; omega) ?_ | refine sq_append rfl sf164.h Tryz.underlying164 rfl rfl (less_slx _ _) (Nat.succ_pos _) (by simp; omega) (by simp; omega) ?_
    refine wz 7 ?_
    exact ⟨⟨(i + 1, i + 1, out ++ [(s.take i).drop f]), ⟨by simp only; omega, Nat.le_refl _⟩, fun j _ h1 h2 => by simp only at h1 h2; omega, cut_step hfi hiL (u8_eq c_18') hno hcut⟩, by simp only; omega, sb 1 ⟨jz, jz, Less.eq (b := .own 0 1 ((out ++ [(s.take i).drop f]).map (fun p => [S p]))) (by rw [List.map_append] <;> rfl), jz, jz, trivial⟩ (hH := (congrArg (fun n => [AObj.tok n]) (by simp)))⟩
   refine wz 3 ?_
   exact ⟨⟨(i + 1, f, out), ⟨by simp only; omega, by simp only; omega⟩, none_ext (fun _ => u8_ne c_18') hno, hcut⟩, by simp only; omega, sb 1 ⟨jz, jz, jz, jz, jz, trivial⟩ (hH := rfl)⟩
  obtain rfl : i = s.length := by omega
  have hlast := cut_last (c := c) (s := s) (f := f) (fun j h h2 => hno j h h2 (by omega))
  rw [hlast] at hcut
  refine wz 3 ?_
  refine sq_ev rfl (ev_less (ev_slice_str (s := ⟨s.toArray⟩) (lo := f) (hi := s.length) Tryz.underlying9 jz jz (by rw [bs_size]) (by omega) (by rw [bs_size]; omega)) (Less.eq (b := S (s.drop f)) (by rw [bs_extract, List.take_length]))) ?_
  refine sq_ev rfl (ev_buildSlice (es := [[_]]) sf164.h rfl rfl rfl rfl) ?_
  first | refine sq_append rfl sf164.h Tryz.underlying164 rfl rfl jz (Nat.succ_pos _) (by simp; omega) (by simp; omega) ?_ | refine sq_append rfl sf164.h Tryz.underlying164 rfl rfl (less_slx _ _) (Nat.succ_pos _) (by simp; omega) (by simp; omega) ?_
  refine wz 1 ?_
  exact retQ_pure (v := .own _ _ _) rfl rfl (Less.trans (less_own _ _ _) (Less.eq (by rw [← hcut]; simp)))
theorem rnumber_pure (d : Nat) (hd : d ≤ 4) (w : List UInt8) (hw : w.length ≤ 1000000) : APure Tryz.prog 157 [S w, I d] (.tup [I (numQ d w).1, B (numQ d w).2]) := by
  refine ap Tryz.func157 (fun e0 he0 => ?_)
  refine wz 6 ?_
  refine sz 11 (fun g1_3 g1_3' => ?_) (fun g1_3 g1_3' => ?_)
  ·have hwe : w = [] := List.length_eq_zero_iff.1 (by omega)
   refine wz 8 ?_
   exact retQ_pure (v := .tup [.raw _, .raw _]) rfl rfl (Less.eq (by rw [numQ_long (.inl hwe)]))
  have hw0 : w ≠ [] := fun e => g1_3' (by rw [e]; rfl)
  refine wz 5 ?_
  refine iz (fun c_16 c_16' => ?_) (fun c_16 c_16' => ?_)
  ·refine wz 2 ?_
   exact retQ_pure (v := .tup [.raw _, .raw _]) rfl rfl (Less.eq (by rw [numQ_long (.inr (by omega))]))
  have hlen : ¬ (w = [] ∨ d < w.length) := by rintro (h | h); exact hw0 h; omega
  have hl3 : w.length ≤ 4 := by omega
  refine wz 2 ?_
  refine aw_loopk (ι := { k : Nat // k ≤ w.length ∧ ∀ i, (h : i < w.length) → i < k → isD w[i] = true }) [0] (fun k => [(7, I k.1), (6, I (valN (w.take k.1)))]) (fun H k => H) (fun k => w.length - k.1) (⟨0, Nat.zero_le _, by omega⟩) ⟨jz, (by exact less_int (by simp [valN])), jz, trivial⟩ rfl ?_
  rintro ⟨k, hk, hds⟩
  refine nz ?_
  have hv := valN_9999 hk (by omega) hds
  refine wz 4 ?_
  refine iz (fun c_20 c_20' => ?_) (fun c_20 c_20' => ?_)
  ·have hkL : k < w.length := by omega
   have hb8 : (w[k]).toNat < 256 := UInt8.toNat_lt _
   refine wz 5 ?_
   refine sz 27 (fun g7_4 g7_4' => ?_) (fun g7_4 g7_4' => ?_)
   ·refine wz 8 ?_
    exact retQ_pure (v := .tup [.raw _, .raw _]) rfl rfl (Less.eq (by rw [numQ_dig hkL (show isD w[k] = false from by rw [← Bool.not_eq_true, isD_iff]; omega)]))
   refine wz 5 ?_
   refine iz (fun c_32 c_32' => ?_) (fun c_32 c_32' => ?_)
   ·refine wz 2 ?_
    exact retQ_pure (v := .tup [.raw _, .raw _]) rfl rfl (Less.eq (by rw [numQ_dig hkL (show isD w[k] = false from by rw [← Bool.not_eq_true, isD_iff]; omega)]))
   have hdk : isD w[k] = true := (isD_iff _).2 (by omega)
   refine wz 12 ?_
   exact ⟨⟨k + 1, by omega, fun i h hi => (by by_cases e : i = k; (subst e; exact hdk); exact hds i h (by omega))⟩, by simp only; omega, Sub.slots ⟨jz, (by exact less_int (valN_take hkL).symm), jz, trivial⟩⟩
  obtain rfl : k = w.length := by omega
  have htk : w.take w.length = w := List.take_length
  have hv1 := hv
  rw [htk] at hv
  refine wz 2 ?_
  refine kz az (rdecimal_pure _ (by omega)) ?_
  refine wz 4 ?_
  exact retQ_pure (v := .tup [.raw _, .raw _]) rfl rfl (Less.eq (by rw [numQ_end hlen (fun i h => hds i h h)]; simp [htk]))
theorem rnumbers_pure (d : Nat) (hd : d ≤ 4) (ws : List (List UInt8)) (hw : ws.length ≤ 1000000) (hb : ∀ w ∈ ws, w.length ≤ 1000000) : APure Tryz.prog 123 [.sl 1 (ws.map fun p => [S p]), I d] (.tup [ints (numsV d ws), B (allO (numO d) ws).isSome]) := by
  refine ap Tryz.func123 (fun e0 he0 => ?_) (hr := by simp [AV.pureL, AV.pureB, AV.pureE, pureE_map])
  refine vz 4 ?_
  refine sq_nil ?_
  refine aw_block ?_
  refine aw_sub (sub_token 6 1 jz) ?_
  refine aw_loopk (ι := { k : Nat // k ≤ ws.length ∧ ∀ i, (h : i < ws.length) → i < k → numO d ws[i] = some (numQ d ws[i]).1 }) [0, 1] (fun i => [(7, I i.1), (6, .own 0 1 ((numsK d ws i.1).map fun x => [I x]))]) (fun H i => H.set 0 (.tok ((numsK d ws i.1).map fun x => [I x]).length)) (fun i => ws.length - i.1) (⟨0, Nat.zero_le _, by omega⟩) ⟨jz, jz, jz, jz, trivial⟩ rfl ?_
  rintro ⟨k, hk, hok⟩
  refine nz ?_
  have hnl := numsK_len d ws k
  refine wz 4 ?_
  refine iz (fun c_13 c_13' => ?_) (fun c_13 c_13' => ?_)
  ·have hkL : k < ws.length := by omega
   refine wz 5 ?_
   refine kz az (rnumber_pure d hd ws[k] (hb _ (List.getElem_mem hkL))) ?_
   refine wz 7 ?_
   refine iz (fun c_26 c_26' => ?_) (fun c_26 c_26' => ?_)
   ·have hns : allO (numO d) ws = none := allO_bad hkL (numQ_F (by simpa using c_26))
    refine wz 2 ?_
    exact retQ_pure (v := .tup [.raw _, .raw _]) rfl rfl (Less.trans (b := .tup [.sl 1 [], B false]) (less_tup ⟨less_nil 1, jz, trivial⟩) (Less.eq (by simp [numsV, hns])))
   have hnk : numO d ws[k] = some (numQ d ws[k]).1 := numQ_T (by simpa using c_26)
   have eS : ((numsK d ws (k + 1)).map fun x => [I x]) = ((numsK d ws k).map fun x => [I x]) ++ [[I (numQ d ws[k]).1]] := by rw [numsK_succ hkL, List.map_append]; rfl
   refine wz 2 ?_
   refine sq_ev rfl (ev_buildSlice (es := [[_]]) sf28.h rfl rfl rfl rfl) ?_
   first | refine sq_append rfl sf28.h Tryz.underlying28 rfl rfl jz (Nat.succ_pos _) (by simp; omega) (by simp; omega) ?_ | refine sq_append rfl sf28.h Tryz.underlying28 rfl rfl (less_slx _ _) (Nat.succ_pos _) (by simp; omega) (by simp; omega) ?_
   refine wz 4 ?_
   exact ⟨⟨k + 1, by omega, fun i h hi => (by by_cases e : i = k; (subst e; exact hnk); exact hok i h (by omega))⟩, by simp only; omega, sb 1 ⟨jz, Less.eq (by rw [eS] <;> rfl), jz, jz, trivial⟩ (hH := (congrArg (fun n => [AObj.tok n]) (congrArg List.length eS.symm)))⟩
  obtain rfl : k = ws.length := by omega
  have hns : allO (numO d) ws = some (numsK d ws ws.length) := numsK_all hok
  refine wz 3 ?_
  exact retQ_pure (v := .tup [.own _ _ _, .raw _]) rfl rfl (Less.trans (b := .tup [ints (numsK d ws ws.length), B true]) (less_tup ⟨less_own _ _ _, jz, trivial⟩) (Less.eq (by simp [numsV, hns])))
end Go.Proofs.YtjpokekbjmdgmaaGreatDoor
namespace Go.Proofs.YtjpokekbjmdgmaaGreatDoor
open Go Go.Ab Ni Hd
instance en65 : EnT Tryz.prog 65 := ⟨Ent.of Tryz.func65 (by kernel_rfl) rfl⟩
theorem term_bl {b : UInt8} {j : Nat} {m : Int} (hj : j < 5000) (hm : 0 ≤ m ∧ m ≤ 1000) : (0 ≤ (b.toNat : Int) * ((j : Int) + 1) ∧ (b.toNat : Int) * ((j : Int) + 1) ≤ 1275000) ∧ 0 ≤ (b.toNat : Int) * ((j : Int) + 1) * m ∧ (b.toNat : Int) * ((j : Int) + 1) * m ≤ 1275000000 := by
  have hb : b.toNat < 256 := b.toNat_lt
  have h1 : 0 ≤ (b.toNat : Int) * ((j : Int) + 1) := Int.mul_nonneg (by omega) (by omega)
  have h2 : (b.toNat : Int) * ((j : Int) + 1) ≤ 255 * 5000 := Int.mul_le_mul (by omega) (by omega) (by omega) (by omega)
  have h3 : (b.toNat : Int) * ((j : Int) + 1) * m ≤ 1275000 * 1000 := Int.mul_le_mul (by omega) hm.2 hm.1 (by omega)
  exact ⟨⟨h1, by omega⟩, Int.mul_nonneg h1 hm.1, by omega⟩
theorem csT_bl {m : Int} (hm : 0 ≤ m ∧ m ≤ 1000) (l : List UInt8) : ∀ k, k ≤ l.length → l.length ≤ 5000 → 0 ≤ csT m l k ∧ csT m l k ≤ 1275000000 * k
  | 0, _, _ => by simp [csT]
  | k + 1, hk, hl => by
    have ih := csT_bl hm l k (by omega) hl
    rw [csT_succ m (by omega)]
    have := term_bl (b := l[k]) (j := k) (m := m) (by omega) hm
    omega
theorem ctT_bl {ls : List (List UInt8)} (hl : ls.length ≤ 999) (hb : ∀ l ∈ ls, l.length ≤ 5000) : ∀ i, i ≤ ls.length → 0 ≤ ctT ls i ∧ ctT ls i ≤ 6375000000000 * i
  | 0, _ => by simp [ctT]
  | i + 1, hii => by
    have ih := ctT_bl hl hb i (by omega)
    rw [ctT_succ (by omega)]
    have h1 := hb _ (List.getElem_mem (show i < ls.length by omega))
    have := csT_bl (m := (i : Int) + 1) ⟨by omega, by omega⟩ ls[i] ls[i].length (Nat.le_refl _) h1
    unfold csL; omega
theorem outT_bl {ls : List (List UInt8)} (hb : ∀ l ∈ ls, l.length ≤ 5000) : ∀ i, i ≤ ls.length → (outT ls i).length ≤ 5001 * i
  | 0, _ => by simp [outT]
  | i + 1, hii => by
    have ih := outT_bl hb i (by omega)
    have h1 := hb _ (List.getElem_mem (show i < ls.length by omega))
    rw [outT_succ (by omega), List.length_append, List.length_append]; simp; omega
structure SmL (r : Rg) : Prop where
  head : ∀ n ∈ l6 r, 0 ≤ n ∧ n ≤ 1000000
  nk : r.kinds.length ≤ 500
  hides : ∀ h ∈ r.hides, h.length ≤ 500 ∧ ∀ n ∈ h, 0 ≤ n ∧ n ≤ 1000000
  len : r.hides.length ≤ 500
theorem kd_pre (ks : List Int) : (preL (ks.map kdW)).length ≤ 7 * ks.length := by
  have h := prelen (B := 6) (ws := ks.map kdW) (fun w hw => by obtain ⟨n, _, rfl⟩ := List.mem_map.1 hw; unfold kdW; split <;> decide)
  rw [List.length_map] at h; exact h
theorem nm_pre {l : List Int} (hb : ∀ n ∈ l, 0 ≤ n ∧ n ≤ 1000000) : (preL (l.map Lib.itoa)).length ≤ 9 * l.length := by
  have := itoas_len l hb l.length
  rwa [List.take_length] at this
theorem SmL.line {r : Rg} (m : SmL r) : ∀ l ∈ linesR r, l.length ≤ 5000 := fun l hl => by
  unfold linesR at hl
  rcases List.mem_cons.1 hl with rfl | hl
  · unfold lnReg wordsOf; rw [join_eq, List.length_append]
    have := nm_pre m.head
    have e : (l6 r).length = 6 := rfl
    have e2 : wReg.length = 8 := rfl
    omega
  · rcases List.mem_cons.1 hl with rfl | hl
    · unfold lnMea; rw [join_eq, List.length_append]
      have := kd_pre r.kinds
      have := m.nk
      have e2 : wMea.length = 8 := rfl
      omega
    · obtain ⟨y, hy, rfl⟩ := List.mem_map.1 hl
      unfold lnHid wordsOf; rw [join_eq, List.length_append]
      have h1 := m.hides y hy
      have := nm_pre h1.2
      have e2 : wHid.length = 4 := rfl
      omega
theorem rsealedL_pure (ls : List (List UInt8)) (hl : ls.length ≤ 900) (hb : ∀ l ∈ ls, l.length ≤ 5000) : APure Tryz.prog 120 [strs ls, I 199] (S (sealR ls)) := by
  refine ap Tryz.func120 (fun e0 he0 => ?_)
  refine wz 4 ?_
  refine aw_loopk (ι := { i : Nat // i ≤ ls.length }) [0, 1] (fun i => [(7, I i.1), (5, S (outT ls i.1)), (6, I (ctT ls i.1))]) (fun H i => H) (fun i => ls.length - i.1) (⟨0, Nat.zero_le _⟩) ⟨jz, jz, jz, jz, jz, trivial⟩ rfl ?_
  rintro ⟨i, hi⟩
  refine nz ?_
  have hol := outT_bl hb i (by omega)
  have hct := ctT_bl (by omega) hb i (by omega)
  refine wz 4 ?_
  refine iz (fun c_12 c_12' => ?_) (fun c_12 c_12' => ?_)
  ·have hi3 : i < ls.length := by omega
   have hll := hb _ (List.getElem_mem hi3)
   refine wz 1 ?_
   refine aw_loopk (ι := { k : Nat // k ≤ ls[i].length }) [0, 1, 5, 7] (fun k => [(8, I k.1), (6, I (ctT ls i + csT ((i : Int) + 1) ls[i] k.1))]) (fun H k => H) (fun k => ls[i].length - k.1) (⟨0, Nat.zero_le _⟩) ⟨jz, (by exact less_int (by simp [csT])), jz, jz, jz, jz, trivial⟩ rfl ?_
   rintro ⟨k, hk⟩
   refine nz ?_
   have hcs := csT_bl (m := (i : Int) + 1) ⟨by omega, by omega⟩ ls[i] k hk hll
   refine wz 7 ?_
   refine iz (fun c_21 c_21' => ?_) (fun c_21 c_21' => ?_)
   ·have hk' : k < ls[i].length := by omega
    have htb := term_bl (b := ls[i][k]) (j := k) (m := (i : Int) + 1) (by omega) ⟨by omega, by omega⟩
    have hb8 : (ls[i][k]).toNat < 256 := UInt8.toNat_lt _
    have eK : ctT ls i + csT ((i : Int) + 1) ls[i] k + (ls[i][k].toNat : Int) * ((k : Int) + 1) * ((i : Int) + 1) = ctT ls i + csT ((i : Int) + 1) ls[i] (k + 1) := by rw [csT_succ _ hk']; omega
    refine wz 10 ?_
    refine sq_ev rfl (ev_mul jz jz (wr (by omega) (by omega))) ?_
    refine wz 2 ?_
    refine sq_ev rfl (ev_mul jz jz (wr (by omega) (by omega))) ?_
    refine wz 5 ?_
    exact ⟨⟨k + 1, by omega⟩, by simp only; omega, Sub.slots ⟨jz, (by exact less_int eK), jz, jz, jz, jz, trivial⟩⟩
   obtain rfl : k = ls[i].length := by omega
   have eO : S (outT ls i ++ ls[i] ++ [10]) = S (outT ls (i + 1)) := by rw [outT_succ hi3]; simp
   have eC : ctT ls i + csT ((i : Int) + 1) ls[i] ls[i].length = ctT ls (i + 1) := by rw [ctT_succ hi3]; rfl
   refine wz 5 ?_
   refine sq_ev rfl (ev_catS jz jz (by omega)) ?_
   refine wz 5 ?_
   exact ⟨⟨i + 1, by omega⟩, by simp only; omega, Sub.slots ⟨jz, Less.eq eO, (by exact less_int eC), jz, jz, trivial⟩⟩
  obtain rfl : i = ls.length := by omega
  refine wz 2 ?_
  refine sq_ev rfl (ev_less (ev_rem jz jz (by decide)) (less_int (Int.tmod_eq_emod_of_nonneg (by omega)))) ?_
  refine vz 1 ?_
  refine sq_nil ?_
  refine aw_seq ?_
  have i1 := itoa_len (n := ctT ls ls.length % 199 / 100) ⟨by omega, by omega⟩
  have i2 := itoa_len (n := ctT ls ls.length % 199 / 10 % 10) ⟨by omega, by omega⟩
  have i3 := itoa_len (n := ctT ls ls.length % 199 % 10) ⟨by omega, by omega⟩
  refine wz 3 ?_
  refine sq_ev rfl (ev_quo (q := ctT ls ls.length % 199 / 100) jz jz (by decide) (qd (by omega) (by omega) (by decide))) ?_
  refine kz az (rdecimal_pure _ (by omega)) ?_
  refine wz 2 ?_
  refine sq_ev rfl (ev_quo (q := ctT ls ls.length % 199 / 10) jz jz (by decide) (qd (by omega) (by omega) (by decide))) ?_
  refine sq_ev rfl (ev_less (ev_rem jz jz (by decide)) (less_int (Int.tmod_eq_emod_of_nonneg (by omega)))) ?_
  refine kz az (rdecimal_pure _ (by omega)) ?_
  refine wz 2 ?_
  refine sq_ev rfl (ev_less (ev_rem jz jz (by decide)) (less_int (Int.tmod_eq_emod_of_nonneg (by omega)))) ?_
  refine kz az (rdecimal_pure _ (by omega)) ?_
  refine wz 3 ?_
  exact rz rfl (Less.eq (by simp [sealR, digs3]))
theorem rprintL_pure {r : Rg} (sm : SmL r) : APure Tryz.prog 63 [rgA r] (S (textR r)) := by
  refine ap Tryz.func63 (fun e0 he0 => ?_)
  refine wz 4 ?_
  refine aw_loopk (ι := { k : Nat // k ≤ r.kinds.length }) [1] (fun k => [(4, I k.1), (3, S (wMea ++ preL ((r.kinds.take k.1).map kdW)))]) (fun H k => H) (fun k => r.kinds.length - k.1) (⟨0, Nat.zero_le _⟩) ⟨jz, Less.eq (by simp [preL] <;> rfl), jz, trivial⟩ rfl ?_
  rintro ⟨k, hk⟩
  refine nz ?_
  have hnk := sm.nk
  have hpl := kd_pre (r.kinds.take k)
  rw [List.length_take] at hpl
  refine wz 5 ?_
  refine iz (fun c_11 c_11' => ?_) (fun c_11 c_11' => ?_)
  ·have hkL : k < r.kinds.length := by omega
   have eL : S (wMea ++ preL ((r.kinds.take k).map kdW) ++ [32] ++ kdW r.kinds[k]) = S (wMea ++ preL ((r.kinds.take (k + 1)).map kdW)) := by rw [List.take_succ_eq_append_getElem hkL, List.map_append]; simp [preL]
   refine wz 1 ?_
   refine sq_ev rfl (ev_catS jz jz (by have : wMea.length = 8 := rfl; simp only [List.length_append, List.length_cons, List.length_nil]; omega)) ?_
   refine wz 5 ?_
   refine kz az (rkind_pure _) ?_
   refine sq_ev rfl (ev_catS jz jz (by have : wMea.length = 8 := rfl; have h9 : (kdW r.kinds[k]).length ≤ 6 := (by unfold kdW; split <;> decide); simp only [List.length_append, List.length_cons, List.length_nil]; omega)) ?_
   refine wz 4 ?_
   exact ⟨⟨k + 1, by omega⟩, by simp only; omega, Sub.slots ⟨jz, Less.eq eL, jz, trivial⟩⟩
  obtain rfl : k = r.kinds.length := by omega
  refine wz 16 ?_
  refine sq_ev rfl (ev_buildSlice (es := [[_], [_], [_], [_], [_], [_]]) sf28.h rfl rfl rfl rfl) ?_
  refine sq_ev rfl (ev_call en119.h jz (rrow_pure wReg (l6 r) (by decide) (by show 6 ≤ 1000; decide) (fun n h => sm.head n h)) ⟨jz, l6_sl r, trivial⟩) ?_
  refine wz 1 ?_
  refine sq_ev rfl (ev_less (ev_buildSlice (es := [[_], [_]]) sf164.h rfl rfl rfl rfl) (Less.eq (b := .slx 1 [[S (lnReg r)], [S (lnMea r)]]) (by unfold lnReg lnMea wordsOf; rw [join_eq, join_eq, List.take_length]))) ?_
  refine vz 2 ?_
  refine sq_nil ?_
  refine aw_block ?_
  refine aw_sub (sub_token_slx 5 1 jz) ?_
  refine aw_loopk (ι := { k : Nat // k ≤ r.hides.length }) [1] (fun i => [(6, I i.1), (5, .own 1 1 (((lnReg r :: lnMea r :: (r.hides.take i.1).map lnHid)).map fun x => [S x]))]) (fun H i => H.set 1 (.tok (((lnReg r :: lnMea r :: (r.hides.take i.1).map lnHid)).map fun x => [S x]).length)) (fun i => r.hides.length - i.1) (⟨0, Nat.zero_le _⟩) ⟨jz, jz, jz, trivial⟩ rfl ?_
  rintro ⟨i, hi⟩
  refine nz ?_
  have hsl := sm.len
  refine wz 5 ?_
  refine iz (fun c_47 c_47' => ?_) (fun c_47 c_47' => ?_)
  ·have hiL : i < r.hides.length := by omega
   have eS : ((lnReg r :: lnMea r :: (r.hides.take (i + 1)).map lnHid)).map (fun x => [S x]) = ((lnReg r :: lnMea r :: (r.hides.take i).map lnHid)).map (fun x => [S x]) ++ [[S (wHid ++ preL (r.hides[i].map Lib.itoa))]] := by rw [List.take_succ_eq_append_getElem hiL, List.map_append]; simp only [List.map_append, List.map_cons, List.map_nil, List.cons_append]; rw [show lnHid r.hides[i] = wHid ++ preL (r.hides[i].map Lib.itoa) from join_eq _ _]
   refine wz 6 ?_
   refine kz az (rrow_pure wHid r.hides[i] (by decide) (by have := (sm.hides _ (List.getElem_mem hiL)).1; omega) (fun n h => (sm.hides _ (List.getElem_mem hiL)).2 n h)) ?_
   refine sq_ev rfl (ev_buildSlice (es := [[_]]) sf164.h rfl rfl rfl rfl) ?_
   first | refine sq_append rfl sf164.h Tryz.underlying164 rfl rfl jz (Nat.succ_pos _) (by simp; omega) (by simp; omega) ?_ | refine sq_append rfl sf164.h Tryz.underlying164 rfl rfl (less_slx _ _) (Nat.succ_pos _) (by simp; omega) (by simp; omega) ?_
   refine wz 4 ?_
   exact ⟨⟨i + 1, by omega⟩, by simp only; omega, sb 2 ⟨jz, Less.eq (by rw [eS] <;> rfl), jz, trivial⟩ (hH := (congrArg (fun n => [_, AObj.tok n]) (congrArg List.length eS.symm)))⟩
  obtain rfl : i = r.hides.length := by omega
  refine wz 1 ?_
  refine sq_ev rfl (ev_call en120.h jz (rsealedL_pure (linesR r) (by simp [linesR]; have := sm.len; omega) sm.line) ⟨Less.trans (less_own _ _ _) (Less.eq (by rw [List.take_length]; rfl)), jz, trivial⟩) ?_
  refine wz 1 ?_
  exact rz rfl (Less.eq (by rfl))
theorem kinds_V {ws : List (List UInt8)} {k : List Int} (h : allO kdO ws = some k) : k = ws.map kdV := by
  obtain ⟨h1, h2⟩ := allO_inv h
  refine List.ext_getElem (by simpa using h1) fun i hi hj => ?_
  rw [List.getElem_map]
  exact (kdO_V (h2 i hi (by simpa using hj))).1
def RdI (r0 : List UInt8) (rest : List (List UInt8)) (i : Nat) (r : Rg) : Prop :=
  (i = 0 ∧ r = rg0) ∨ (i = 1 ∧ ∃ l, headO r0 = some l ∧ r = rg6 l [] []) ∨
  ∃ r1 rs l q, rest = r1 :: rs ∧ i = q.length + 2 ∧ headO r0 = some l ∧ r = rg6 l (((cut 32 r1).drop 1).map kdV) q ∧ q.length ≤ (rs.take (rs.length - 2)).length ∧
    ∀ j, (h : j < q.length) → (h2 : j < (rs.take (rs.length - 2)).length) → numsR (rs.take (rs.length - 2))[j] = some q[j]
theorem headO_six {r0 : List UInt8} {l : List Int} (h : headO r0 = some l) : l.length = 6 ∧ numsR r0 = some l := by
  unfold headO at h
  split at h
  · rename_i l2 q; split at h
    · rename_i q6; cases h; exact ⟨q6, q⟩
    · cases h
  · cases h
theorem rd_td {r0 : List UInt8} {rest : List (List UInt8)} {i : Nat} {r : Rg} (h : RdI r0 rest i r) : TdR r := by
  have hd : ∀ {l k : List Int} {q : List (List Int)}, headO r0 = some l → ∀ n ∈ l6 (rg6 l k q), Sayd n := fun {l k q} e n hn => by
    obtain ⟨h6, e2⟩ := headO_six e
    rw [l6_rg6 h6] at hn
    exact numsR_td e2 n hn
  rcases h with ⟨_, rfl⟩ | ⟨_, l, e, rfl⟩ | ⟨r1, rs, l, q, _, _, e, rfl, hl, hok⟩
  · refine ⟨fun n hn => sayd_small ?_, fun k hk => (by cases hk), fun x hx => (by cases hx)⟩
    simp only [l6, rg0, List.mem_cons, List.not_mem_nil, or_false] at hn; omega
  · exact ⟨hd e, fun k hk => (by cases hk), fun x hx => (by cases hx)⟩
  · refine ⟨hd e, fun k hk => ?_, fun x hx n hn => ?_⟩
    · obtain ⟨w, _, rfl⟩ := List.mem_map.1 (show k ∈ ((cut 32 r1).drop 1).map kdV from hk)
      unfold kdV; split
      · exact .inl rfl
      · exact .inr rfl
    · obtain ⟨j, hj, rfl⟩ := List.getElem_of_mem (show x ∈ q from hx)
      exact numsR_td (hok j hj (by omega)) n hn
theorem rd_sm {r0 : List UInt8} {rest : List (List UInt8)} {i : Nat} {r : Rg} (b0 : r0.length ≤ 400) (hm : ∀ m ∈ rest, m.length ≤ 400) (hn : rest.length ≤ 401) (h : RdI r0 rest i r) : SmL r := by
  have nb : ∀ {row : List UInt8} {l : List Int}, numsR row = some l → ∀ n ∈ l, 0 ≤ n ∧ n ≤ 1000000 := fun {row l} e n hn => by have := num_all e n hn; omega
  have hd : ∀ {l k : List Int} {q : List (List Int)}, headO r0 = some l → ∀ n ∈ l6 (rg6 l k q), 0 ≤ n ∧ n ≤ 1000000 := fun {l k q} e n hn => by
    obtain ⟨h6, e2⟩ := headO_six e
    rw [l6_rg6 h6] at hn
    exact nb e2 n hn
  rcases h with ⟨_, rfl⟩ | ⟨_, l, e, rfl⟩ | ⟨r1, rs, l, q, rfl, _, e, rfl, hl, hok⟩
  · refine ⟨fun n hn => ?_, by decide, fun x hx => (by cases hx), by decide⟩
    simp only [l6, rg0, List.mem_cons, List.not_mem_nil, or_false] at hn; omega
  · exact ⟨hd e, Nat.zero_le _, fun x hx => (by cases hx), Nat.zero_le _⟩
  · have h1 := hm r1 (by simp)
    have c1 := (cut_len 32 r1).1
    rw [List.length_take] at hl
    rw [List.length_cons] at hn
    refine ⟨hd e, ?_, fun x hx => ?_, show q.length ≤ 500 by omega⟩
    · show (((cut 32 r1).drop 1).map kdV).length ≤ 500
      rw [List.length_map, List.length_drop]; omega
    · obtain ⟨j, hj, rfl⟩ := List.getElem_of_mem (show x ∈ q from hx)
      have hj2 : j < (rs.take (rs.length - 2)).length := by rw [List.length_take]; omega
      have hk := hok j hj hj2
      have h2 := numsR_len hk
      have h3 := hm _ (List.mem_cons_of_mem _ (List.mem_of_mem_take (List.getElem_mem hj2)))
      exact ⟨by omega, nb hk⟩
theorem rows_inv {s : List UInt8} {r : Rg} (h : rowsR s = some r) : ∃ r0 r1 rs l k hs, cut 10 s = r0 :: r1 :: rs ∧ 2 ≤ rs.length ∧ headO r0 = some l ∧ kindsO r1 = some k ∧ allO numsR (rs.take (rs.length - 2)) = some hs ∧ r = rg6 l k hs := by
  unfold rowsR at h
  split at h
  · rename_i r0 r1 rs hc
    split at h
    · rename_i h2
      split at h
      · rename_i l k hs e0 e1 e2
        cases h
        exact ⟨r0, r1, rs, l, k, hs, hc, h2, e0, e1, e2, rfl⟩
      · cases h
    · cases h
  · cases h
theorem rd_end {s r0 : List UInt8} {rest : List (List UInt8)} {i : Nat} {r : Rg} (hR : cut 10 s = r0 :: rest) (h : RdI r0 rest i r) (hi : ¬ (i : Int) < ((r0 :: rest).length : Int) - 2) :
    parseR s = if textR r = s then some r else none := by
  by_cases e : textR r = s
  · rw [if_pos e, ← e]; exact parse_text (rd_td h)
  · rw [if_neg e]
    cases hp : parseR s with
    | none => rfl
    | some r' =>
      exfalso
      have ht := parseR_text hp
      have hrow : rowsR s = some r' := by
        unfold parseR at hp
        split at hp
        · rename_i q hq; split at hp
          · cases hp; exact hq
          · cases hp
        · cases hp
      obtain ⟨a0, a1, aa, l, k, hs, hc, h2, e0, e1, e2, rfl⟩ := rows_inv hrow
      rw [hR, List.cons.injEq] at hc
      obtain ⟨rfl, rfl⟩ := hc
      simp only [List.length_cons] at hi
      rcases h with ⟨rfl, _⟩ | ⟨rfl, _⟩ | ⟨r1, rs, l', q, hcc, rfl, e', rfl, hl, hok⟩
      · omega
      · omega
      · rw [List.cons.injEq] at hcc
        obtain ⟨rfl, rfl⟩ := hcc
        have hqe : q.length = (aa.take (aa.length - 2)).length := by rw [List.length_take] at hl ⊢; omega
        have hq := allO_ok hqe fun j hj hj2 => hok j hj hj2
        rw [hq] at e2
        rw [e'] at e0
        have hk := kinds_V e1
        simp only [Option.some.injEq] at e0 e2
        subst e0 e2 hk
        exact e ht
theorem rd_bad {s r0 : List UInt8} {rest : List (List UInt8)} {i : Nat} {r : Rg} (hR : cut 10 s = r0 :: rest) (h : RdI r0 rest i r) (hi : (i : Int) < ((r0 :: rest).length : Int) - 2) (h1 : i ≠ 1) (hir : i < (r0 :: rest).length) (hn : numsR (r0 :: rest)[i] = none) : parseR s = none := by
  cases rest with
  | nil => simp at hi; omega
  | cons r1 rs =>
    simp only [List.length_cons] at hi
    rcases h with ⟨rfl, _⟩ | ⟨rfl, _⟩ | ⟨r1', rs', l', q, hcc, rfl, e', rfl, hl, hok⟩
    · exact rows_head hR (headO_num hn)
    · exact absurd rfl h1
    · rw [List.cons.injEq] at hcc
      obtain ⟨rfl, rfl⟩ := hcc
      have hk : q.length < (rs.take (rs.length - 2)).length := by rw [List.length_take]; omega
      refine rows_hides hR (allO_bad hk ?_)
      rw [List.getElem_take]
      simpa using hn
theorem rd_head {s r0 : List UInt8} {rest : List (List UInt8)} (hR : cut 10 s = r0 :: rest) (h2 : 1 ≤ rest.length) (hn : headO r0 = none) : parseR s = none := by
  cases rest with
  | nil => simp at h2
  | cons r1 rs => exact rows_head hR hn
theorem rd_1 {r0 : List UInt8} {rest : List (List UInt8)} {r : Rg} (h : RdI r0 rest 1 r) : ∃ l, headO r0 = some l ∧ r = rg6 l [] [] := by
  rcases h with ⟨h, _⟩ | ⟨_, h⟩ | ⟨_, _, _, _, _, h, _⟩
  · omega
  · exact h
  · omega
theorem rd_0 {r0 : List UInt8} {rest : List (List UInt8)} {r : Rg} (h : RdI r0 rest 0 r) : r = rg0 := by
  rcases h with ⟨_, h⟩ | ⟨h, _⟩ | ⟨_, _, _, _, _, h, _⟩
  · exact h
  · omega
  · omega
theorem rd_k2 {r0 r1 : List UInt8} {rs : List (List UInt8)} {l : List Int} {w0 : List UInt8} {ws : List (List UInt8)} (h0 : headO r0 = some l) (hW : cut 32 r1 = w0 :: ws) : RdI r0 (r1 :: rs) 2 (rg6 l (ws.map kdV) []) :=
  .inr (.inr ⟨r1, rs, l, [], rfl, rfl, h0, by rw [hW]; rfl, Nat.zero_le _, fun j h => by simp at h⟩)
theorem rd_q {r0 : List UInt8} {rest : List (List UInt8)} {i : Nat} {r : Rg} (h : RdI r0 rest i r) (hi : (i : Int) < ((r0 :: rest).length : Int) - 2) (h0 : i ≠ 0) (h1 : i ≠ 1) (hir : i < (r0 :: rest).length) {n : List Int} (hn : numsR (r0 :: rest)[i] = some n) : ∃ l k q, r = rg6 l k q ∧ RdI r0 rest (i + 1) (rg6 l k (q ++ [n])) := by
  rcases h with ⟨h, _⟩ | ⟨h, _⟩ | ⟨r1, rs, l, q, rfl, rfl, e', rfl, hl, hok⟩
  · exact absurd h h0
  · exact absurd h h1
  · simp only [List.length_cons] at hi
    have hk : q.length < (rs.take (rs.length - 2)).length := by rw [List.length_take]; omega
    refine ⟨l, _, q, rfl, .inr (.inr ⟨r1, rs, l, q ++ [n], rfl, by simp, e', rfl, by simp; omega, fun j hj hj2 => ?_⟩)⟩
    simp only [List.length_append, List.length_cons, List.length_nil, Nat.zero_add] at hj
    rcases Nat.lt_or_ge j q.length with z | z
    · rw [List.getElem_append_left z]; exact hok j z hj2
    · obtain rfl : j = q.length := by omega
      rw [List.getElem_append_right (by omega)]
      simp only [Nat.sub_self, List.getElem_cons_zero]
      rw [List.getElem_take]
      simpa using hn
theorem none_of {α : Type} {o : Option α} (h : o.isSome = false) : o = none := by cases o <;> simp_all
theorem rsplit10 (s : List UInt8) (hs : s.length ≤ 1000000) : APure Tryz.prog 122 [S s, .raw (.int .u8 10)] (.sl 1 ((cut 10 s).map fun p => [S p])) := rsplit_pure s 10 hs
theorem rsplit32 (s : List UInt8) (hs : s.length ≤ 1000000) : APure Tryz.prog 122 [S s, .raw (.int .u8 32)] (.sl 1 ((cut 32 s).map fun p => [S p])) := rsplit_pure s 32 hs
def refAV (s : List UInt8) : AV := match parseR s with | some r => .tup [rgA r, B true] | none => .tup [rgA rg0, B false]
theorem refAV_pure (s : List UInt8) : (refAV s).pureB = true := by unfold refAV; split <;> simp [AV.pureL, AV.pureB, AV.pureE, pureE_map]
theorem ref_no {s : List UInt8} (h : parseR s = none) : refAV s = .tup [rgA rg0, B false] := by unfold refAV; rw [h]
theorem ref_yes {s : List UInt8} {r : Rg} (h : parseR s = some r) : refAV s = .tup [rgA r, B true] := by unfold refAV; rw [h]
abbrev rcC (r : Rg) : List AV := [.own 2 1 (r.kinds.map fun k => [I k]), .own 3 1 (r.hides.map fun h => [ints h]), I r.al, I r.ah, I r.bl, I r.bh, I r.off, I r.mends]
theorem less_rc (r : Rg) : Less (.agg (rcC r)) (rgA r) := less_agg ⟨less_own _ _ _, less_own _ _ _, jz, jz, jz, jz, jz, jz, trivial⟩
def kdsK (ws : List (List UInt8)) (j : Nat) : List Int := (ws.take j).map kdV
theorem kdsK_succ {ws : List (List UInt8)} {j : Nat} (h : j < ws.length) : kdsK ws (j + 1) = kdsK ws j ++ [kdV ws[j]] := by unfold kdsK; rw [List.take_succ_eq_append_getElem h, List.map_append]; rfl
theorem kdsK_all (ws : List (List UInt8)) : kdsK ws ws.length = ws.map kdV := by unfold kdsK; rw [List.take_length]
theorem kdsK_len (ws : List (List UInt8)) (j : Nat) : (kdsK ws j).length ≤ ws.length := by unfold kdsK; rw [List.length_map, List.length_take]; omega
end Go.Proofs.YtjpokekbjmdgmaaGreatDoor
namespace Go.Proofs.YtjpokekbjmdgmaaGreatDoor
open Go Go.Ab Ni Hd
theorem rread_pure (s : List UInt8) (hs : s.length ≤ 400) : APure Tryz.prog 65 [S s] (refAV s) := by
  refine ap Tryz.func65 (fun e0 he0 => ?_) (hr := refAV_pure s)
  refine wz 4 ?_
  refine kz az (rsplit10 s (by omega)) ?_
  refine vz 1 ?_
  refine sq_nil ?_
  refine aw_seq ?_
  refine aw_seq ?_
  generalize hR : cut 10 s = R
  have hRl := cut_len 10 s
  have hRm := cut_mem 10 s
  rw [hR] at hRl hRm
  obtain ⟨r0, rest, rfl⟩ : ∃ r0 rest, R = r0 :: rest := by cases R with | nil => simp at hRl | cons a l => exact ⟨a, l, rfl⟩
  have hrs9 : rest.length ≤ s.length := by have h := hRl.1; rw [List.length_cons] at h; omega
  have hLR : (r0 :: rest).length = rest.length + 1 := rfl
  have hb0 : r0.length ≤ 400 := Nat.le_trans (hRm r0 (by simp)) hs
  have hbm : ∀ m ∈ rest, m.length ≤ 400 := fun m hm => Nat.le_trans (hRm m (List.mem_cons_of_mem _ hm)) hs
  have hbn : rest.length ≤ 401 := by omega
  refine vz 1 ?_
  refine sq_nil ?_
  refine aw_block ?_
  refine aw_sub (sub_token_cell 1 1 [] [.raw (.slice none 0 0), I 0, I 0, I 0, I 0, I 0, I 0] rfl) ?_
  refine aw_sub (sub_token_cell 1 1 [.own 2 1 []] [I 0, I 0, I 0, I 0, I 0, I 0] rfl) ?_
  refine aw_loopk (ι := { x : Nat × Rg // x.1 ≤ rest.length + 1 ∧ RdI r0 rest x.1 x.2 }) [0, 2, 4, 5] (fun x => [(6, I x.1.1)]) (fun H x => ((H.set 1 (.cells (rcC x.1.2))).set 2 (.tok (x.1.2.kinds.map fun k => [I k]).length)).set 3 (.tok (x.1.2.hides.map fun h => [ints h]).length)) (fun x => rest.length + 1 - x.1.1) (⟨(0, rg0), Nat.zero_le _, .inl ⟨rfl, rfl⟩⟩) ⟨jz, jz, jz, jz, jz, trivial⟩ rfl ?_
  rintro ⟨⟨i, r⟩, hil, hinv⟩
  refine nz ?_
  simp only at hil hinv
  have hsm := rd_sm hb0 hbm hbn hinv
  have hnk := hsm.nk
  have hnh := hsm.len
  refine wz 5 ?_
  refine iz (fun c_18 c_18' => ?_) (fun c_18 c_18' => ?_)
  ·have hir : i < (r0 :: rest).length := by omega
   refine wz 4 ?_
   refine kz az (rsplit32 (r0 :: rest)[i] (by have := hRm _ (List.getElem_mem hir); omega)) ?_
   refine vz 1 ?_
   refine sq_nil ?_
   refine aw_seq ?_
   refine aw_seq ?_
   generalize hW : cut 32 (r0 :: rest)[i] = W9
   have hwl := cut_mem 32 (r0 :: rest)[i]
   have hwl2 := (cut_len 32 (r0 :: rest)[i]).1
   have hwl3 := (cut_len 32 (r0 :: rest)[i]).2
   rw [hW] at hwl hwl2 hwl3
   have hrm := hRm _ (List.getElem_mem hir)
   obtain ⟨w0, ws, rfl⟩ : ∃ w0 ws, W9 = w0 :: ws := by cases W9 with | nil => simp at hwl3 | cons a l => exact ⟨a, l, rfl⟩
   have hLc : (w0 :: ws).length = ws.length + 1 := rfl
   refine wz 2 ?_
   refine iz (fun c_27 c_27' => ?_) (fun c_27 c_27' => ?_)
   ·refine aw_seq ?_
    refine aw_seq ?_
    obtain rfl : i = 1 := by omega
    obtain ⟨l, hl0, rfl⟩ := rd_1 hinv
    obtain ⟨r1, rs, rfl⟩ : ∃ r1 rs, rest = r1 :: rs := by cases rest with | nil => simp at hir | cons a l => exact ⟨a, l, rfl⟩
    refine wz 1 ?_
    refine aw_loopk (ι := { j : Nat // j ≤ ws.length }) [0, 2, 4, 5, 6, 7] (fun u => [(8, I ((u.1 + 1 : Nat) : Int))]) (fun H u => (H.set 1 (.cells (rcC (rg6 l (kdsK ws u.1) [])))).set 2 (.tok ((kdsK ws u.1).map fun k => [I k]).length)) (fun u => ws.length - u.1) (⟨0, Nat.zero_le _⟩) ⟨(by exact less_int rfl), jz, jz, jz, jz, jz, jz, trivial⟩ rfl ?_
    rintro ⟨j, hj⟩
    refine nz ?_
    have hkl := kdsK_len ws j
    have hkl2 : (rg6 l (kdsK ws j) []).kinds.length ≤ ws.length := kdsK_len ws j
    refine wz 4 ?_
    refine iz (fun c_31 c_31' => ?_) (fun c_31 c_31' => ?_)
    ·have hjL : j < ws.length := by omega
     refine wz 6 ?_
     refine iz (fun c_38 c_38' => ?_) (fun c_38 c_38' => ?_)
     ·have hkd : kdV ws[j] = 1 := by unfold kdV; rw [if_pos (by simpa [wAlo] using c_38')]
      have eS : (kdsK ws (j + 1)).map (fun k => [I k]) = (kdsK ws j).map (fun k => [I k]) ++ [[I 1]] := by rw [kdsK_succ hjL, List.map_append, show kdV ws[j] = 1 from hkd]; rfl
      refine wz 4 ?_
      refine sq_ev rfl (ev_buildSlice (es := [[_]]) sf22.h rfl rfl rfl rfl) ?_
      first | refine sq_append rfl sf22.h Tryz.underlying22 rfl rfl jz (Nat.succ_pos _) (by simp; omega) (by simp; omega) ?_ | refine sq_append rfl sf22.h Tryz.underlying22 rfl rfl (less_slx _ _) (Nat.succ_pos _) (by simp; omega) (by simp; omega) ?_
      refine wz 5 ?_
      exact ⟨⟨j + 1, by omega⟩, by simp only; omega, sb 4 ⟨(by exact less_int (show ((j + 1 : Nat) : Int) + 1 = ((j + 1 + 1 : Nat) : Int) by omega)), jz, jz, jz, jz, jz, jz, trivial⟩ (hH := (congrArg (fun L => [_, AObj.cells [AV.own 2 1 L, _, _, _, _, _, _, _], AObj.tok L.length, _]) eS.symm))⟩
     have hkd : kdV ws[j] = 2 := by unfold kdV; rw [if_neg (by simpa [wAlo] using c_38')]
     have eS : (kdsK ws (j + 1)).map (fun k => [I k]) = (kdsK ws j).map (fun k => [I k]) ++ [[I 2]] := by rw [kdsK_succ hjL, List.map_append, show kdV ws[j] = 2 from hkd]; rfl
     refine wz 3 ?_
     refine sq_ev rfl (ev_buildSlice (es := [[_]]) sf22.h rfl rfl rfl rfl) ?_
     first | refine sq_append rfl sf22.h Tryz.underlying22 rfl rfl jz (Nat.succ_pos _) (by simp; omega) (by simp; omega) ?_ | refine sq_append rfl sf22.h Tryz.underlying22 rfl rfl (less_slx _ _) (Nat.succ_pos _) (by simp; omega) (by simp; omega) ?_
     refine wz 5 ?_
     exact ⟨⟨j + 1, by omega⟩, by simp only; omega, sb 4 ⟨(by exact less_int (show ((j + 1 : Nat) : Int) + 1 = ((j + 1 + 1 : Nat) : Int) by omega)), jz, jz, jz, jz, jz, jz, trivial⟩ (hH := (congrArg (fun L => [_, AObj.cells [AV.own 2 1 L, _, _, _, _, _, _, _], AObj.tok L.length, _]) eS.symm))⟩
    obtain rfl : j = ws.length := by omega
    refine wz 3 ?_
    exact ⟨⟨(2, rg6 l (ws.map kdV) []), by simp only; omega, rd_k2 hl0 hW⟩, by simp only; omega, sb 4 ⟨jz, jz, jz, jz, jz, trivial⟩ (hH := (congrArg (fun L => [_, AObj.cells (rcC (rg6 l L [])), AObj.tok (L.map fun k => [I k]).length, _]) (kdsK_all ws)))⟩
   refine aw_skip ?_
   refine aw_seq ?_
   have hnr : numsR (r0 :: rest)[i] = allO (numO 4) ws := by unfold numsR; rw [hW]; rfl
   refine wz 1 ?_
   refine sq_ev rfl (ev_less (ev_slice (lo := 1) sl164.h jz jz rfl (by simp) (by simp)) (Less.eq (b := strs ws) (by rw [List.take_of_length_le (by simp)]; simp [strs]))) ?_
   refine kz az (rnumbers_pure 4 (by omega) ws (by omega) (fun w hw => by have := hwl w (List.mem_cons_of_mem _ hw); omega)) ?_
   refine wz 8 ?_
   refine sz 53 (fun g16_2 g16_2' => ?_) (fun g16_2 g16_2' => ?_)
   ·have hpn : parseR s = none := rd_bad hR hinv (by omega) (by omega) hir (by rw [hnr]; exact none_of (by simpa using g16_2))
    refine wz 12 ?_
    exact retQ_res (vs := [.agg _, .raw _]) rfl rfl ⟨resVar_cell rfl rfl ty27.h rfl, resVar_tmp _ _ _, trivial⟩ (Less.trans (b := .tup [rgA rg0, B false]) (less_tup ⟨less_rg0, jz, trivial⟩) (Less.eq (ref_no hpn).symm))
   obtain ⟨ns, hns⟩ := Option.isSome_iff_exists.1 (show (allO (numO 4) ws).isSome = true by simpa using g16_2)
   have hnv : numsV 4 ws = ns := by simp [numsV, hns]
   rw [hns] at hnr
   have hnl := (allO_inv hns).1
   rw [hnv]
   refine wz 3 ?_
   refine sz 56 (fun g16_5 g16_5' => ?_) (fun g16_5 g16_5' => ?_)
   ·refine wz 5 ?_
    refine iz (fun c_61 c_61' => ?_) (fun c_61 c_61' => ?_)
    ·obtain rfl : i = 0 := by omega
     have hpn : parseR s = none := rd_head hR (by omega) (headO_len hnr (by omega))
     refine wz 3 ?_
     exact retQ_res (vs := [.agg _, .raw _]) rfl rfl ⟨resVar_cell rfl rfl ty27.h rfl, resVar_tmp _ _ _, trivial⟩ (Less.trans (b := .tup [rgA rg0, B false]) (less_tup ⟨less_rg0, jz, trivial⟩) (Less.eq (ref_no hpn).symm))
    have h6 : ns.length = 6 := by omega
    have hho := headO_ok hnr h6
    obtain ⟨b1, b2, b3, b4, b5, b6, rfl⟩ := six h6
    refine wz 2 ?_
    refine iz (fun c_64 c_64' => ?_) (fun c_64 c_64' => ?_)
    ·obtain rfl : i = 0 := by omega
     obtain rfl := rd_0 hinv
     dsimp only [List.append, List.set, List.length, List.take, List.drop, List.cons_append, List.nil_append, List.append_nil, Nat.zero_add, Nat.add_zero]
     refine aw_drawc [] [21, 23, 25, 27] _ mo (by kernel_rfl) (HSub.mask [1] 0 _) ?_
     first | refine dc_ev rfl (ev_mv (v := .sl _ _) jz) ?_ | refine dc_ev rfl (ev_mv (v := .own _ _ _) jz) ?_ | refine dc_ev rfl (ev_mv (v := .raw _) jz) ?_ | refine dc_ev rfl (ev_mv (v := .slx _ _) jz) ?_ | refine dc_ev rfl (ev_mv (v := .msl _ _ _ _) jz) ?_
     refine dc_ev rfl (ev_index_map (k := 0) sl28.h jz jz rfl (by simp)) ?_
     first | refine dc_ev rfl (ev_load jz rfl ty3.h rfl) ?_ | refine dc_ev rfl (ev_load_i jz ty3.h rfl) ?_
     first | refine dc_ev rfl (ev_mv (v := .sl _ _) jz) ?_ | refine dc_ev rfl (ev_mv (v := .own _ _ _) jz) ?_ | refine dc_ev rfl (ev_mv (v := .raw _) jz) ?_ | refine dc_ev rfl (ev_mv (v := .slx _ _) jz) ?_ | refine dc_ev rfl (ev_mv (v := .msl _ _ _ _) jz) ?_
     refine dc_ev rfl (ev_index_map (k := 1) sl28.h jz jz rfl (by simp)) ?_
     first | refine dc_ev rfl (ev_load jz rfl ty3.h rfl) ?_ | refine dc_ev rfl (ev_load_i jz ty3.h rfl) ?_
     first | refine dc_ev rfl (ev_mv (v := .sl _ _) jz) ?_ | refine dc_ev rfl (ev_mv (v := .own _ _ _) jz) ?_ | refine dc_ev rfl (ev_mv (v := .raw _) jz) ?_ | refine dc_ev rfl (ev_mv (v := .slx _ _) jz) ?_ | refine dc_ev rfl (ev_mv (v := .msl _ _ _ _) jz) ?_
     refine dc_ev rfl (ev_index_map (k := 2) sl28.h jz jz rfl (by simp)) ?_
     first | refine dc_ev rfl (ev_load jz rfl ty3.h rfl) ?_ | refine dc_ev rfl (ev_load_i jz ty3.h rfl) ?_
     first | refine dc_ev rfl (ev_mv (v := .sl _ _) jz) ?_ | refine dc_ev rfl (ev_mv (v := .own _ _ _) jz) ?_ | refine dc_ev rfl (ev_mv (v := .raw _) jz) ?_ | refine dc_ev rfl (ev_mv (v := .slx _ _) jz) ?_ | refine dc_ev rfl (ev_mv (v := .msl _ _ _ _) jz) ?_
     refine dc_ev rfl (ev_index_map (k := 3) sl28.h jz jz rfl (by simp)) ?_
     first | refine dc_ev rfl (ev_load jz rfl ty3.h rfl) ?_ | refine dc_ev rfl (ev_load_i jz ty3.h rfl) ?_
     refine dc_ev rfl (ev_build bi25.h rfl) ?_
     first | refine dc_ev rfl (ev_mv (v := .sl _ _) jz) ?_ | refine dc_ev rfl (ev_mv (v := .own _ _ _) jz) ?_ | refine dc_ev rfl (ev_mv (v := .raw _) jz) ?_ | refine dc_ev rfl (ev_mv (v := .slx _ _) jz) ?_ | refine dc_ev rfl (ev_mv (v := .msl _ _ _ _) jz) ?_
     refine dc_ev rfl (ev_index_map (k := 4) sl28.h jz jz rfl (by simp)) ?_
     first | refine dc_ev rfl (ev_load jz rfl ty3.h rfl) ?_ | refine dc_ev rfl (ev_load_i jz ty3.h rfl) ?_
     first | refine dc_ev rfl (ev_mv (v := .sl _ _) jz) ?_ | refine dc_ev rfl (ev_mv (v := .own _ _ _) jz) ?_ | refine dc_ev rfl (ev_mv (v := .raw _) jz) ?_ | refine dc_ev rfl (ev_mv (v := .slx _ _) jz) ?_ | refine dc_ev rfl (ev_mv (v := .msl _ _ _ _) jz) ?_
     refine dc_ev rfl (ev_index_map (k := 5) sl28.h jz jz rfl (by simp)) ?_
     first | refine dc_ev rfl (ev_load jz rfl ty3.h rfl) ?_ | refine dc_ev rfl (ev_load_i jz ty3.h rfl) ?_
     refine dc_ev rfl (ev_build bi25.h rfl) ?_
     first | refine dc_ev rfl (ev_fieldAddr fo27_4.h jz) ?_ | refine dc_ev rfl (ev_fieldAddr_i fo27_4.h jz) ?_
     refine dc_eff rfl rfl (eff_store rfl jz jz rfl rfl ty3.h rfl rfl) (by apply HL.sub; repeat' (first | exact HL.nil _ | apply HL.same | apply HL.tok)) ?_
     first | refine dc_ev rfl (ev_fieldAddr fo27_5.h jz) ?_ | refine dc_ev rfl (ev_fieldAddr_i fo27_5.h jz) ?_
     refine dc_eff rfl rfl (eff_store rfl jz jz rfl rfl ty3.h rfl rfl) (by apply HL.sub; repeat' (first | exact HL.nil _ | apply HL.same | apply HL.tok)) ?_
     first | refine dc_ev rfl (ev_fieldAddr fo27_2.h jz) ?_ | refine dc_ev rfl (ev_fieldAddr_i fo27_2.h jz) ?_
     refine dc_eff rfl rfl (eff_store rfl jz jz rfl rfl ty25.h rfl rfl) (by apply HL.sub; repeat' (first | exact HL.nil _ | apply HL.same | apply HL.tok)) ?_
     first | refine dc_ev rfl (ev_fieldAddr fo27_3.h jz) ?_ | refine dc_ev rfl (ev_fieldAddr_i fo27_3.h jz) ?_
     refine dc_eff rfl rfl (eff_store rfl jz jz rfl rfl ty25.h rfl rfl) (by apply HL.sub; repeat' (first | exact HL.nil _ | apply HL.same | apply HL.tok)) ?_
     refine dc_nil ?_
     refine wz 3 ?_
     exact ⟨⟨(1, rg6 [b1, b2, b3, b4, b5, b6] [] []), by simp only; omega, .inr (.inl ⟨rfl, _, hho, rfl⟩)⟩, by simp only; omega, sb 4 ⟨jz, jz, jz, jz, jz, trivial⟩ (hH := rfl)⟩
    exfalso
    omega
   refine wz 8 ?_
   refine iz (fun c_64 c_64' => ?_) (fun c_64 c_64' => ?_)
   ·exfalso
    omega
   obtain ⟨l, k, q, rfl, hnext⟩ := rd_q hinv (by omega) (by omega) (by omega) hir hnr
   have eS : (q ++ [ns]).map (fun h => [ints h]) = q.map (fun h => [ints h]) ++ [[ints ns]] := by rw [List.map_append]; rfl
   refine wz 3 ?_
   refine sq_ev rfl (ev_buildSlice (es := [[_]]) sf23.h rfl rfl rfl rfl) ?_
   first | refine sq_append rfl sf23.h Tryz.underlying23 rfl rfl jz (Nat.succ_pos _) (by simp; omega) (by simp; omega) ?_ | refine sq_append rfl sf23.h Tryz.underlying23 rfl rfl (less_slx _ _) (Nat.succ_pos _) (by simp; omega) (by simp; omega) ?_
   refine wz 5 ?_
   exact ⟨⟨(i + 1, rg6 l k (q ++ [ns])), by simp only; omega, hnext⟩, by simp only; omega, sb 4 ⟨jz, jz, jz, jz, jz, trivial⟩ (hH := (congrArg (fun L => [_, AObj.cells [_, AV.own 3 1 L, _, _, _, _, _, _], _, AObj.tok L.length]) eS.symm))⟩
  refine aw_exit ?_
  refine aw_seq ?_
  refine aw_seq ?_
  have hend := rd_end hR hinv (by omega)
  refine wz 1 ?_
  refine sq_ev rfl (ev_call en63.h jz (rprintL_pure hsm) ⟨less_rc r, trivial⟩) ?_
  refine wz 2 ?_
  refine iz (fun c_98 c_98' => ?_) (fun c_98 c_98' => ?_)
  ·have hpn : parseR s = none := by rw [hend, if_neg (fun e => c_98' e)]
   refine wz 3 ?_
   exact retQ_res (vs := [.agg _, .raw _]) rfl rfl ⟨resVar_cell rfl rfl ty27.h rfl, resVar_tmp _ _ _, trivial⟩ (Less.trans (b := .tup [rgA rg0, B false]) (less_tup ⟨less_rg0, jz, trivial⟩) (Less.eq (ref_no hpn).symm))
  have hpy : parseR s = some r := by rw [hend, if_pos (by simpa using c_98')]
  refine wz 3 ?_
  exact retQ_res (vs := [.agg _, .raw _]) rfl rfl ⟨resVar_cell rfl rfl ty27.h rfl, resVar_tmp _ _ _, trivial⟩ (Less.trans (b := .tup [rgA r, B true]) (less_tup ⟨less_rc r, jz, trivial⟩) (Less.eq (ref_yes hpy).symm))
end Go.Proofs.YtjpokekbjmdgmaaGreatDoor
namespace Go.Proofs.YtjpokekbjmdgmaaGreatDoor
open Go Go.Ab Ni Hd
theorem sm_lens {r : Rg} (m : SmR r) : r.kinds.length ≤ 1000000 ∧ r.hides.length ≤ 1000000 ∧ ∀ h ∈ r.hides, h.length ≤ 1000000 := ⟨by have := m.nk; omega, by have := m.len; omega, fun h hh => by have := (m.hides h hh).1; omega⟩
theorem reads_long {s : List UInt8} (hs : 400 < s.length) : APure Tryz.prog 15 [S s] (B true) := by
  refine ap Tryz.func15 (fun e0 he0 => ?_)
  refine wz 4 ?_
  refine iz (fun c_12 c_12' => ?_) (fun c_12 c_12' => ?_)
  ·refine wz 0 ?_
   refine kz az (known_pure) ?_
   refine wz 1 ?_
   exact rz rfl jz
  exfalso
  omega
theorem reads_big {s : List UInt8} {x : Rg} {b : Bool} (hs : ¬ 400 < s.length) (h4 : 300 < s.length) (k62 : APure Tryz.prog 62 [S s] (.tup [rgA rg0, I 3])) (k65 : APure Tryz.prog 65 [S s] (.tup [rgA x, B b])) (k64 : APure Tryz.prog 64 [rgA rg0, rgA rg0] (B true)) : APure Tryz.prog 15 [S s] (B true) := by
  refine ap Tryz.func15 (fun e0 he0 => ?_)
  refine wz 4 ?_
  refine iz (fun c_12 c_12' => ?_) (fun c_12 c_12' => ?_)
  ·exfalso
   omega
  refine wz 1 ?_
  refine kz az (k62) ?_
  refine wz 7 ?_
  refine kz az (k65) ?_
  refine wz 10 ?_
  refine iz (fun c_26 c_26' => ?_) (fun c_26 c_26' => ?_)
  ·refine wz 10 ?_
   refine sq_yes rfl rfl jz rfl (ev_call en64.h jz (k64) ⟨jz, less_rg0, trivial⟩) ?_
   refine wz 2 ?_
   refine ky az (known_pure) ?_
   refine wz 2 ?_
   exact rz rfl jz
  exfalso
  omega
theorem reads_none {s : List UInt8} (hs : ¬ 400 < s.length) (h4 : ¬ 300 < s.length) (k62 : APure Tryz.prog 62 [S s] (.tup [rgA rg0, I 4])) (k65 : APure Tryz.prog 65 [S s] (.tup [rgA rg0, B false])) (k64 : APure Tryz.prog 64 [rgA rg0, rgA rg0] (B true)) : APure Tryz.prog 15 [S s] (B true) := by
  refine ap Tryz.func15 (fun e0 he0 => ?_)
  refine wz 4 ?_
  refine iz (fun c_12 c_12' => ?_) (fun c_12 c_12' => ?_)
  ·exfalso
   omega
  refine wz 1 ?_
  refine kz az (k62) ?_
  refine wz 7 ?_
  refine kz az (k65) ?_
  refine wz 10 ?_
  refine iz (fun c_26 c_26' => ?_) (fun c_26 c_26' => ?_)
  ·exfalso
   omega
  refine wz 13 ?_
  refine sq_yes rfl rfl jz rfl (ev_call en64.h jz (k64) ⟨jz, less_rg0, trivial⟩) ?_
  refine wz 2 ?_
  refine ky az (known_pure) ?_
  refine wz 2 ?_
  exact rz rfl jz
theorem reads_bad {s : List UInt8} {b : Rg} (hs : ¬ 400 < s.length) (h4 : ¬ 300 < s.length) (k62 : APure Tryz.prog 62 [S s] (.tup [rgA rg0, I 2])) (k65 : APure Tryz.prog 65 [S s] (.tup [rgA b, B true])) (k21 : APure Tryz.prog 21 [rgA b] (B false)) (k64 : APure Tryz.prog 64 [rgA rg0, rgA rg0] (B true)) : APure Tryz.prog 15 [S s] (B true) := by
  refine ap Tryz.func15 (fun e0 he0 => ?_)
  refine wz 4 ?_
  refine iz (fun c_12 c_12' => ?_) (fun c_12 c_12' => ?_)
  ·exfalso
   omega
  refine wz 1 ?_
  refine kz az (k62) ?_
  refine wz 7 ?_
  refine kz az (k65) ?_
  refine wz 10 ?_
  refine iz (fun c_26 c_26' => ?_) (fun c_26 c_26' => ?_)
  ·exfalso
   omega
  refine wz 4 ?_
  refine kz az (k21) ?_
  refine wz 12 ?_
  refine sq_yes rfl rfl jz rfl (ev_call en64.h jz (k64) ⟨jz, less_rg0, trivial⟩) ?_
  refine wz 2 ?_
  refine ky az (known_pure) ?_
  refine wz 2 ?_
  exact rz rfl jz
theorem reads_ok {s : List UInt8} {b : Rg} (hs : ¬ 400 < s.length) (h4 : ¬ 300 < s.length) (k62 : APure Tryz.prog 62 [S s] (.tup [rgA b, I 0])) (k65 : APure Tryz.prog 65 [S s] (.tup [rgA b, B true])) (k21 : APure Tryz.prog 21 [rgA b] (B true)) (k64 : APure Tryz.prog 64 [rgA b, rgA b] (B true)) (k61 : APure Tryz.prog 61 [rgA b] (.tup [S s, I 0])) : APure Tryz.prog 15 [S s] (B true) := by
  refine ap Tryz.func15 (fun e0 he0 => ?_)
  refine wz 4 ?_
  refine iz (fun c_12 c_12' => ?_) (fun c_12 c_12' => ?_)
  ·exfalso
   omega
  refine wz 1 ?_
  refine kz az (k62) ?_
  refine wz 7 ?_
  refine kz az (k65) ?_
  refine wz 10 ?_
  refine iz (fun c_26 c_26' => ?_) (fun c_26 c_26' => ?_)
  ·exfalso
   omega
  refine wz 4 ?_
  refine kz az (k21) ?_
  refine wz 6 ?_
  refine kz az (k61) ?_
  refine wz 10 ?_
  refine ky az (k64) ?_
  refine wz 11 ?_
  refine sz 66 (fun g15_16 g15_16' => ?_) (fun g15_16 g15_16' => ?_)
  ·refine ky az (known_pure) ?_
   refine wz 2 ?_
   exact rz rfl jz
  exfalso
  simp at g15_16
/-- **HideReads.** -/
theorem law15 (s : List UInt8) : APure Tryz.prog 15 [S s] (B true) := by
  by_cases h5 : 400 < s.length
  · exact reads_long h5
  · have k62 := read_pure s
    have k65 := rread_pure s (by omega)
    have k0 := samer_pure rg0 (by decide) (by decide) (by decide)
    unfold readAV at k62
    by_cases h4 : 300 < s.length
    · rw [readE_long h4] at k62
      cases hp : parseR s with
      | none => rw [ref_no hp] at k65; exact reads_big h5 h4 k62 k65 k0
      | some b => rw [ref_yes hp] at k65; exact reads_big h5 h4 k62 k65 k0
    · cases hp : parseR s with
      | none => rw [readE_none h4 hp] at k62; rw [ref_no hp] at k65; exact reads_none h5 h4 k62 k65 k0
      | some b =>
        rw [ref_yes hp] at k65
        have lens := sm_lens (parse_sm (by omega) hp)
        have k21 := register_pure b lens.1 lens.2.1 lens.2.2
        cases hk : rgOK b with
        | false => rw [hk] at k21; rw [readE_bad h4 hp hk] at k62; exact reads_bad h5 h4 k62 k65 k21 k0
        | true =>
          rw [hk] at k21; rw [readE_ok h4 hp hk] at k62
          have k61 := print_pure b lens.1 lens.2.1 lens.2.2
          unfold printE at k61
          rw [hk, if_pos rfl, parseR_text hp] at k61
          exact reads_ok h5 h4 k62 k65 k21 (samer_pure b lens.1 lens.2.1 lens.2.2) k61
end Go.Proofs.YtjpokekbjmdgmaaGreatDoor
