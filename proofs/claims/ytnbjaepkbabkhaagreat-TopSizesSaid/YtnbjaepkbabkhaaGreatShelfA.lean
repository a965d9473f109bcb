/-
  A part of the proof: conditions: none beyond each theorem's own.
-/
import Derived.Test.YtnbjaepkbabkhaaGreatProg
import Derived.Shelf.SlicesG.Cmp
import Derived.Shelf.Lays
import Derived.Shelf.Lay
import Derived.Shelf.RegionOpenPlain
import Derived.WalkKit
import Derived.Deep.LoopGhost
import Derived.Deep.Draws
import Derived.Lib.Walk
import Derived.Ground.SlgcProg
import Derived.Ground.SlsfProg
import Derived.Test.YtnbjaepkbabkhaaGreatSpecA
import Derived.Test.YtnbjaepkbabkhaaGreatLogicE
import Derived.Shelf.SlSortCmp.NoneTotal
set_option linter.all false
namespace Go.Proofs
open Go.Shelf Go.RowKit Go.Lib
def Tryz.cmpInt_ren : Go.Shelf.Ren := ⟨fun | 5 => 140 | 7 => 177 | n => n, fun | 22 => 3 | 3 => 3 | 4 => 4 | n => n, fun | n => n⟩
theorem Tryz.cmpInt : Go.Proofs.SlLaysC2.n5 Tryz.prog Tryz.cmpInt_ren := {
  mixed := by kernel_rfl
  f5 := ⟨Tryz.f140.name, by decide, Tryz.func140.trans (congrArg some (by kernel_rfl))⟩
  f7 := ⟨Tryz.f177.name, by decide, Tryz.func177.trans (congrArg some (by kernel_rfl))⟩
  t3 := Tryz.underlying3
  a3 := Tryz.isAgg3
  z3 := Tryz.sizeOf3
  v3 := Tryz.zeroValue3
  t4 := Tryz.underlying4
  a4 := Tryz.isAgg4
  z4 := Tryz.sizeOf4
  v4 := Tryz.zeroValue4
  t22 := Tryz.underlying3
  a22 := Tryz.isAgg3
  z22 := Tryz.sizeOf3
  v22 := Tryz.zeroValue3 }
def cmpL : List Int → List Int → Int
  | [], [] => 0
  | [], _ :: _ => -1
  | _ :: _, [] => 1
  | a :: l, b :: m => if a < b then -1 else if b < a then 1 else cmpL l m
theorem cmpL_at : ∀ (l m : List Int) (k : Nat), k ≤ l.length → k ≤ m.length → (∀ j, j < k → l.getD j 0 = m.getD j 0) → cmpL l m = cmpL (l.drop k) (m.drop k)
  | _, _, 0, _, _, _ => rfl
  | [], _, k + 1, h, _, _ => absurd h (Nat.not_succ_le_zero _)
  | _ :: _, [], k + 1, _, h, _ => absurd h (Nat.not_succ_le_zero _)
  | a :: l, b :: m, k + 1, h1, h2, h => by
    have h0 := h 0 (Nat.succ_pos _)
    simp only [List.getD_cons_zero] at h0
    subst h0
    rw [cmpL, if_neg (Int.lt_irrefl _), if_neg (Int.lt_irrefl _), List.drop_succ_cons, List.drop_succ_cons]
    exact cmpL_at l m k (Nat.le_of_succ_le_succ h1) (Nat.le_of_succ_le_succ h2) fun j hj => by have := h (j + 1) (Nat.succ_lt_succ hj); simpa using this
set_option maxHeartbeats 2000000 in
set_option maxRecDepth 100000 in
theorem Tryz.slices_Compare_int (b1 o1 c b2 o2 d : Nat) (xs ys : List Int) (w : World) (hbig : xs.length ≤ 1000000) (hbig2 : ys.length ≤ 1000000) (hc1 : ∀ j, j < xs.length → w.cell? ⟨b1, o1 + j, none⟩ = some (.int .i64 (xs.getD j 0))) (hc2 : ∀ j, j < ys.length → w.cell? ⟨b2, o2 + j, none⟩ = some (.int .i64 (ys.getD j 0))) :
    Calls Tryz.prog 85 #[.slice (some ⟨b1, o1, none⟩) xs.length c, .slice (some ⟨b2, o2, none⟩) ys.length d] w fun e w' => e = .returned (.int .i64 (cmpL xs ys)) ∧ w' = w := by
  have hcon := fun x y => AnyG.cmp_Compare_int Tryz.cmpInt x y w
  change ∀ x y, Calls Tryz.prog 140 _ _ _ at hcon
  obtain ⟨n, hn⟩ : ∃ n, n = xs.length := ⟨_, rfl⟩
  obtain ⟨m, hm⟩ : ∃ m, m = ys.length := ⟨_, rfl⟩
  rw [← hn, ← hm]
  rw [← hn] at hbig hc1
  rw [← hm] at hbig2 hc2
  have HN : Aside (n = xs.length ∧ m = ys.length) := ⟨hn, hm⟩
  clear hn hm
  go_enter Tryz.func85, Tryz.ntmps85
  go_wp2
  go_loopg [11] n (fun g s11 wr => ∃ k : Nat, k ≤ n ∧ k ≤ m ∧ n - k ≤ g ∧ s11 = .int .i64 k ∧ w = wr ∧ ∀ j, j < k → xs.getD j 0 = ys.getD j 0)
  case atStart => exact ⟨0, Nat.zero_le _, Nat.zero_le _, by omega, rfl, rfl, fun j hj => absurd hj (Nat.not_lt_zero _)⟩
  case round =>
    obtain ⟨k, hk, hkm, hg, rfl, rfl, heq⟩ := hrel
    have A : Aside (∀ j, j < k → xs.getD j 0 = ys.getD j 0) := heq
    by_cases hlt : k < n
    · have g1 : w.cell? ⟨b1, o1 + k, none⟩ = some (.int .i64 (xs.getD k 0)) := hc1 k (by omega)
      by_cases hlm : k < m
      · have g2 : w.cell? ⟨b2, o2 + k, none⟩ = some (.int .i64 (ys.getD k 0)) := hc2 k (by omega)
        clear heq hc1 hc2
        generalize hxk : xs.getD k 0 = x at g1
        generalize hyk : ys.getD k 0 = y at g2
        have B : Aside (xs.getD k 0 = x ∧ ys.getD k 0 = y) := ⟨hxk, hyk⟩
        clear hxk hyk
        have hc := hcon x y
        clear hcon
        have C : Aside (Lib.compareInt x y = (if x < y then -1 else if y < x then 1 else 0)) := rfl
        generalize Lib.compareInt x y = r at hc C
        by_cases hr : r = 0
        · subst hr
          go_wp2_with (go_at_call 140; refine hc.mono ?_; rintro e w' ⟨rfl, rfl⟩)
          go_roundg (n - (k + 1))
          case measure => omega
          case rel =>
            refine ⟨k + 1, by omega, by omega, by omega, by go_num, rfl, fun j hj => ?_⟩
            by_cases e : j = k
            · subst e
              rw [B.out.1, B.out.2]
              have h := C.out
              split at h
              · omega
              · split at h <;> omega
            · exact A.out j (by omega)
        · go_wp2_with (go_at_call 140; refine hc.mono ?_; rintro e w' ⟨rfl, rfl⟩)
          go_ret
          refine ⟨?_, rfl⟩
          obtain ⟨hn, hm⟩ := HN.out
          rw [cmpL_at xs ys k (by omega) (by omega) A.out, List.drop_eq_getElem_cons (by omega), List.drop_eq_getElem_cons (show k < ys.length by omega), cmpL]
          have h1 := B.out.1
          have h2 := B.out.2
          rw [List.getD_eq_getElem?_getD, List.getElem?_eq_getElem (by omega)] at h1 h2
          simp only [Option.getD_some] at h1 h2
          rw [h1, h2]
          have h := C.out
          by_cases q1 : x < y
          · rw [if_pos q1] at h ⊢; rw [h]; rfl
          · rw [if_neg q1] at h ⊢
            by_cases q2 : y < x
            · rw [if_pos q2] at h ⊢; rw [h]; rfl
            · rw [if_neg q2] at h; exact absurd h hr
      · clear heq hc1 hc2 hcon
        go_wp2
        go_ret
        refine ⟨?_, rfl⟩
        obtain ⟨hn, hm⟩ := HN.out
        rw [cmpL_at xs ys k (by omega) (by omega) A.out, List.drop_eq_getElem_cons (by omega), List.drop_of_length_le (show ys.length ≤ k by omega), cmpL]
        rfl
    · have hkn : Aside (k = n) := (by omega : k = n)
      clear heq hc1 hc2 hcon
      by_cases hlm : k < m
      · go_wp2
        go_ret
        refine ⟨?_, rfl⟩
        obtain ⟨hn, hm⟩ := HN.out
        have hkn := hkn.out
        rw [cmpL_at xs ys k (by omega) (by omega) A.out, List.drop_of_length_le (show xs.length ≤ k by omega), List.drop_eq_getElem_cons (by omega), cmpL]
        rfl
      · go_wp2
        go_ret
        refine ⟨?_, rfl⟩
        obtain ⟨hn, hm⟩ := HN.out
        have hkn := hkn.out
        rw [cmpL_at xs ys k (by omega) (by omega) A.out, List.drop_of_length_le (show xs.length ≤ k by omega), List.drop_of_length_le (show ys.length ≤ k by omega), cmpL]
        rfl
end Go.Proofs
namespace Go.Proofs
open Go.Shelf Go.RowKit Go.Lib Go.Sort Go.Ab
open Hd (lex lex_irr lex_trans lex_total)
open Br (leL leL_trans sorted_eq)
def Tryz.sortL_ren : Go.Shelf.Ren := ⟨fun | 6 => 84 | 15 => 139 | 14 => 138 | 28 => 175 | 29 => 176 | 20 => 167 | 21 => 168 | 22 => 169 | 23 => 170 | 24 => 171 | 25 => 172 | 26 => 173 | 27 => 174 | 46 => 190 | 47 => 191 | 48 => 192 | 49 => 193 | 50 => 194 | 57 => 198 | n => n, fun | 22 => 35 | 24 => 31 | 25 => 175 | 3 => 3 | 39 => 217 | 0 => 0 | 53 => 256 | 55 => 258 | 4 => 4 | 46 => 249 | 45 => 248 | 50 => 253 | 5 => 5 | 9 => 9 | 66 => 270 | 70 => 274 | 76 => 278 | 77 => 80 | n => n, fun | n => n⟩
theorem Tryz.sortL : Go.Proofs.SlLaysF.n6 Tryz.prog Tryz.sortL_ren := {
  mixed := by kernel_rfl
  f6 := ⟨Tryz.f84.name, by decide, Tryz.func84.trans (congrArg some (by kernel_rfl))⟩
  f14 := ⟨Tryz.f138.name, by decide, Tryz.func138.trans (congrArg some (by kernel_rfl))⟩
  f15 := Tryz.func139.trans (congrArg some (by kernel_rfl))
  f20 := ⟨Tryz.f167.name, by decide, Tryz.func167.trans (congrArg some (by kernel_rfl))⟩
  f21 := ⟨Tryz.f168.name, by decide, Tryz.func168.trans (congrArg some (by kernel_rfl))⟩
  f22 := ⟨Tryz.f169.name, by decide, Tryz.func169.trans (congrArg some (by kernel_rfl))⟩
  f23 := ⟨Tryz.f170.name, by decide, Tryz.func170.trans (congrArg some (by kernel_rfl))⟩
  f24 := ⟨Tryz.f171.name, by decide, Tryz.func171.trans (congrArg some (by kernel_rfl))⟩
  f25 := ⟨Tryz.f172.name, by decide, Tryz.func172.trans (congrArg some (by kernel_rfl))⟩
  f26 := ⟨Tryz.f173.name, by decide, Tryz.func173.trans (congrArg some (by kernel_rfl))⟩
  f27 := ⟨Tryz.f174.name, by decide, Tryz.func174.trans (congrArg some (by kernel_rfl))⟩
  f28 := Tryz.func175.trans (congrArg some (by kernel_rfl))
  f29 := Tryz.func176.trans (congrArg some (by kernel_rfl))
  f46 := ⟨Tryz.f190.name, by decide, Tryz.func190.trans (congrArg some (by kernel_rfl))⟩
  f47 := Tryz.func191.trans (congrArg some (by kernel_rfl))
  f48 := Tryz.func192.trans (congrArg some (by kernel_rfl))
  f49 := ⟨Tryz.f193.name, by decide, Tryz.func193.trans (congrArg some (by kernel_rfl))⟩
  f50 := ⟨Tryz.f194.name, by decide, Tryz.func194.trans (congrArg some (by kernel_rfl))⟩
  f57 := ⟨Tryz.f198.name, by decide, Tryz.func198.trans (congrArg some (by kernel_rfl))⟩
  t0 := Tryz.underlying0
  a0 := Tryz.isAgg0
  z0 := Tryz.sizeOf0
  v0 := Tryz.zeroValue0
  t3 := Tryz.underlying3
  a3 := Tryz.isAgg3
  z3 := Tryz.sizeOf3
  v3 := Tryz.zeroValue3
  t4 := Tryz.underlying4
  a4 := Tryz.isAgg4
  z4 := Tryz.sizeOf4
  v4 := Tryz.zeroValue4
  t5 := Tryz.underlying5
  a5 := Tryz.isAgg5
  z5 := Tryz.sizeOf5
  v5 := Tryz.zeroValue5
  t9 := Tryz.underlying9
  a9 := Tryz.isAgg9
  z9 := Tryz.sizeOf9
  v9 := Tryz.zeroValue9
  t22 := Tryz.underlying35
  a22 := Tryz.isAgg35
  z22 := Tryz.sizeOf35
  v22 := Tryz.zeroValue35
  a24 := Tryz.isAgg31
  z24 := Tryz.sizeOf31
  t25 := Tryz.underlying175
  a25 := Tryz.isAgg175
  z25 := Tryz.sizeOf175
  v25 := Tryz.zeroValue175
  t39 := Tryz.underlying217
  a39 := Tryz.isAgg217
  z39 := Tryz.sizeOf217
  v39 := Tryz.zeroValue217
  t45 := Tryz.underlying248
  a45 := Tryz.isAgg248
  z45 := Tryz.sizeOf248
  v45 := Tryz.zeroValue248
  t46 := Tryz.underlying249
  a46 := Tryz.isAgg249
  z46 := Tryz.sizeOf249
  v46 := Tryz.zeroValue249
  t50 := Tryz.underlying253
  a50 := Tryz.isAgg253
  z50 := Tryz.sizeOf253
  v50 := Tryz.zeroValue253
  t53 := Tryz.underlying256
  a53 := Tryz.isAgg256
  z53 := Tryz.sizeOf256
  v53 := Tryz.zeroValue256
  t55 := Tryz.underlying258
  a55 := Tryz.isAgg258
  z55 := Tryz.sizeOf258
  v55 := Tryz.zeroValue258
  t66 := Tryz.underlying270
  a66 := Tryz.isAgg270
  z66 := Tryz.sizeOf270
  v66 := Tryz.zeroValue270
  t70 := Tryz.underlying274
  a70 := Tryz.isAgg274
  z70 := Tryz.sizeOf274
  v70 := Tryz.zeroValue274
  t76 := Tryz.underlying278
  a76 := Tryz.isAgg278
  z76 := Tryz.sizeOf278
  v76 := Tryz.zeroValue278
  t77 := Tryz.underlying80
  a77 := Tryz.isAgg80
  z77 := Tryz.sizeOf80
  v77 := Tryz.zeroValue80 }
theorem cmpL_lex : ∀ a b : List Int, decide (cmpL a b < 0) = lex a b
  | [], [] => rfl
  | [], _ :: _ => rfl
  | _ :: _, [] => rfl
  | x :: a, y :: b => by
    rw [cmpL, lex]
    by_cases e : x = y
    · subst e
      rw [if_neg (Int.lt_irrefl _), if_neg (Int.lt_irrefl _), if_pos rfl]
      exact cmpL_lex a b
    · rw [if_neg e]
      by_cases h : x < y
      · rw [if_pos h, decide_eq_true h]; rfl
      · rw [if_neg h, if_pos (by omega), decide_eq_false h]; rfl
theorem lt_lex {n : Nat} (f : Fin n → List Int) (i j : Fin n) : ltOf (fun i j => cmpL (f i) (f j)) i j = lex (f i) (f j) := by
  rw [← cmpL_lex]; rfl
theorem swoL {n : Nat} (f : Fin n → List Int) : SWO (ltOf fun i j => cmpL (f i) (f j)) where
  irrefl x := by rw [lt_lex, lex_irr]
  trans x y z h1 h2 := by rw [lt_lex] at *; exact lex_trans h1 h2
  ntrans x y z h1 h2 := by
    rw [lt_lex] at *
    have h := leL_trans (f z) (f y) (f x) (by unfold leL; rw [h2]; rfl) (by unfold leL; rw [h1]; rfl)
    unfold leL at h; simpa using h
theorem extr_all {α : Type} (a : Array α) (n : Nat) (h : a.size = n) : a.extract 0 n = a := by subst h; simp
theorem lis_oneCell {w : World} {b : Nat} {z : List Int} {h : Value} (q : LisAt w b z h) : h.oneCell' = true := by
  obtain ⟨bk, o, c, rfl, _⟩ := q; rfl
variable [Tabs]
/-- **slices.SortFunc by slices.Compare**, what the row holds. -/
theorem sort_lists {zs : List (List Int)} (hpos : 0 < zs.length) (hn : zs.length ≤ 1000000) (hz : ∀ z ∈ zs, z.length ≤ 1000000) (b cap : Nat) (w : World) (hv : List Value) (hvl : hv.length = zs.length) (_ : zs.length ≤ cap)
    (hH : Holds (fun v : Value => v) w b 0 hv.toArray) (hb : b < w.heap.size) (hl : ∀ q, (h1 : q < zs.length) → (h2 : q < hv.length) → LisAt w b zs[q] hv[q]) :
    Calls Tryz.prog 84 #[.slice (some ⟨b, 0, none⟩) zs.length cap, .func (.func 85) #[] #[]] w fun x w' => x = .returned (.tuple #[]) ∧ ∃ (ps : List (Value × List Int)) (n : Nat) (os : Array Obj), ps.Perm (hv.zip zs) ∧ ps.map Prod.snd = zs.mergeSort leL ∧ w' = grow (putRow (fun v : Value => v) (Go.Sort.ahead w n) b 0 (ps.map Prod.fst).toArray) os := by
  haveI : Inhabited (Fin zs.length) := ⟨⟨0, hpos⟩⟩
  obtain ⟨f, hf⟩ : ∃ f : Fin zs.length → List Int, f = fun i => zs[i] := ⟨_, rfl⟩
  obtain ⟨enc, henc⟩ : ∃ enc : Fin zs.length → Value, enc = fun i => hv[i.1]'(by have := i.2; omega) := ⟨_, rfl⟩
  have hd : (Array.ofFn (fun i : Fin zs.length => i)).size = zs.length := by simp
  have hgd : ∀ (j : Nat), (hj : j < zs.length) → (Array.ofFn (fun i : Fin zs.length => i))[j]! = ⟨j, hj⟩ := fun j hj => by
    rw [getElem!_pos _ j (by simpa using hj)]; simp
  have hli : ∀ i : Fin zs.length, LisAt w b (f i) (enc i) := fun i => by rw [hf, henc]; exact hl i.1 i.2 (by have := i.2; omega)
  have hHe : Holds enc w b 0 (Array.ofFn (fun i : Fin zs.length => i)) := fun j hj => by
    have hj' : j < zs.length := by simpa using hj
    have h := hH j (by simpa [hvl] using hj')
    rw [hgd j hj', henc]
    rw [getElem!_pos _ j (by simpa [hvl] using hj')] at h
    simpa using h
  have hcmp : CmpLays1 Tryz.prog 85 #[] enc (fun i j => cmpL (f i) (f j)) b 0 (Array.ofFn (fun i : Fin zs.length => i)).size w := by
    intro m os dk hs x y
    obtain ⟨b1, o1, c1, e1, n1, s1, l1, h1⟩ := hli x
    obtain ⟨b2, o2, c2, e2, n2, s2, l2, h2⟩ := hli y
    have key : ∀ bk o, bk ≠ b → bk < w.heap.size → (sortWorld enc w b 0 m dk os).cell? ⟨bk, o, none⟩ = w.cell? ⟨bk, o, none⟩ := fun bk o hne hs => by
      unfold sortWorld
      rw [cell?_grow _ _ _ (by simpa [putRow, mapBlock] using hs), cell?_putRow_other _ _ _ _ _ _ (.inl hne), cell?_ahead]
    have hx : (f x).length ≤ 1000000 := by rw [hf]; exact hz _ (List.getElem_mem _)
    have hy : (f y).length ≤ 1000000 := by rw [hf]; exact hz _ (List.getElem_mem _)
    have hc := Tryz.slices_Compare_int b1 o1 c1 b2 o2 c2 (f x) (f y) (sortWorld enc w b 0 m dk os) hx hy
      (fun j hj => by rw [key _ _ n1 s1, h1 j hj, List.getD_eq_getElem?_getD, List.getElem?_eq_getElem hj]; rfl)
      (fun j hj => by rw [key _ _ n2 s2, h2 j hj, List.getD_eq_getElem?_getD, List.getElem?_eq_getElem hj]; rfl)
    rw [e1, e2]
    refine hc.mono ?_
    rintro e w' ⟨rfl, rfl⟩
    exact ⟨rfl, 0, #[], by rw [grow_empty]; rfl⟩
  have eg : ∀ args w, (callFunc 85 args).run Tryz.prog w = .ok (.enter 85 args) w := enters_of Tryz.func85 (by kernel_rfl) rfl
  have hcon := Any.slices_SortFunc Tryz.sortL enc (fun i => lis_oneCell (hli i)) (fun i j => cmpL (f i) (f j)) (swoL f) 85 #[] b 0 cap (Array.ofFn (fun i : Fin zs.length => i)) w eg hcmp hHe hb (by rw [hd]; omega)
  change Calls Tryz.prog 84 _ _ _ at hcon
  rw [hd] at hcon
  refine hcon.mono ?_
  rintro e w' ⟨rfl, d', n, os, hp, hs, rfl⟩
  obtain ⟨hp1, _, hp3⟩ := hp
  rw [hd] at hp1
  have hx1 : d'.extract 0 zs.length = d' := extr_all _ _ hp1
  have hx2 : (Array.ofFn (fun i : Fin zs.length => i)).extract 0 zs.length = Array.ofFn (fun i : Fin zs.length => i) := extr_all _ _ hd
  rw [hx1, hx2] at hp3
  have hps : ∀ i : Fin zs.length, (enc i, f i) = (hv.zip zs)[i.1]'(by have := i.2; simp; omega) := fun i => by rw [hf, henc]; simp
  have hzip : (Array.ofFn (fun i : Fin zs.length => i)).toList.map (fun i => (enc i, f i)) = hv.zip zs := by
    refine List.ext_getElem (by simp [hvl]) fun k h1 h2 => ?_
    simp only [List.length_map, Array.length_toList, Array.size_ofFn] at h1
    simp only [List.getElem_map, Array.getElem_toList, Array.getElem_ofFn]
    exact hps ⟨k, h1⟩
  refine ⟨rfl, d'.toList.map (fun i => (enc i, f i)), n, os, ?_, ?_, ?_⟩
  · rw [← hzip]; exact hp3.map _
  · rw [List.map_map]
    refine sorted_eq ?_ ?_ (List.pairwise_mergeSort leL_trans Br.leL_total _)
    · refine ((hp3.map f).trans ?_).trans (List.mergeSort_perm _ _).symm
      have h1 := congrArg (List.map Prod.snd) hzip
      rw [List.map_map] at h1
      have h2 : (Prod.snd ∘ fun i => (enc i, f i)) = f := rfl
      rw [h2] at h1
      rw [h1, List.map_snd_zip (by omega)]
    · rw [List.pairwise_iff_getElem]
      intro i j h1 h2 hij
      simp only [List.length_map, Array.length_toList] at h1 h2
      have h := hs i j (Nat.zero_le _) hij (by omega)
      rw [lt_lex, getElem!_pos _ i (by omega), getElem!_pos _ j (by omega)] at h
      simp only [List.getElem_map, Array.getElem_toList, Function.comp]
      unfold leL; rw [h]; rfl
  · unfold sortWorld
    congr 1
    unfold putRow
    congr 1
    funext cs
    unfold putCells
    have hsz : ((d'.toList.map (fun i => (enc i, f i))).map Prod.fst).toArray.size = d'.size := by simp
    rw [hsz]
    refine congrArg (fun g => Array.mapIdx g cs) ?_
    funext k x
    by_cases hk : 0 ≤ k ∧ k < 0 + d'.size
    · rw [if_pos hk, if_pos hk, getElem!_pos _ _ (by omega), getElem!_pos _ _ (by rw [hsz]; omega)]
      simp
    · rw [if_neg hk, if_neg hk]
theorem sort_nil : APure Tryz.prog 84 [.raw (.slice none 0 0), .fn (.func 85) [] []] (.tup []) := by
  intro e us ok hs
  rw [RepL] at hs
  obtain ⟨v, rest, hus, hv, hr⟩ := hs
  rw [RepL] at hr
  obtain ⟨v2, rest2, rfl, hv2, hr2⟩ := hr
  rw [RepL] at hr2
  subst hr2
  rw [Rep] at hv
  subst hv
  have hus' : us = #[.slice none 0 0, v2] := Array.ext' (by simpa using hus)
  subst hus'
  have hcon := AnyF.slices_SortFunc_none { Tryz.sortL with } none 0 v2 e.w
  change Calls Tryz.prog 84 _ _ _ at hcon
  have h1 := (callsIn_wide (n := 0)).2 hcon
  refine CallsIn.mono (F := FW none) (n := 0) h1 ?_
  rintro x w' ⟨rfl, rfl⟩
  exact ⟨.tuple #[], e, rfl, rfl, Ext.refl ok, by rw [Rep]; exact ⟨#[], rfl, RepL.nil⟩⟩
end Go.Proofs
