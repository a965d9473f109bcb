/-
  A part of the proof: conditions: none beyond each theorem's own.
-/
import Derived.Test.YtnbjaepkbabkhaaGreatWalkB
import Derived.Test.YtnbjaepkbabkhaaGreatLogicD
import Derived.KernelRfl
import Derived.Lib.LaidTab
import Derived.Lib.ItoaNum
import Derived.Test.YtnbjaepkbabkhaaGreatLogicE
import Derived.Test.YtnbjaepkbabkhaaGreatShelfA
set_option linter.all false
set_option maxRecDepth 100000
set_option maxHeartbeats 8000000
namespace Go.Proofs.YtnbjaepkbabkhaaGreat
open Go Go.Ab Br Hd
open Ni hiding fw bw lo hi can
instance bi167 : BdI Tryz.prog 167 [.raw (.slice none 0 0), .raw (.slice none 0 0)] true [(0, 1), (1, 1)] 0 := ⟨by kernel_rfl⟩
instance en134 : EnT Tryz.prog 134 := ⟨Ent.of Tryz.func134 (by kernel_rfl) rfl⟩
instance en136 : EnT Tryz.prog 136 := ⟨Ent.of Tryz.func136 (by kernel_rfl) rfl⟩
instance en137 : EnT Tryz.prog 137 := ⟨Ent.of Tryz.func137 (by kernel_rfl) rfl⟩
instance en166 : EnT Tryz.prog 166 := ⟨Ent.of Tryz.func166 (by kernel_rfl) rfl⟩
instance fo112_0 : FoF Tryz.prog 112 0 0 25 := ⟨by kernel_rfl⟩
instance sl35 : SlE Tryz.prog 35 31 1 := ⟨by kernel_rfl⟩
instance ty167 : TyF Tryz.prog 167 true 2 := ⟨by kernel_rfl⟩
instance ty212 : TyF Tryz.prog 212 false 1 := ⟨by kernel_rfl⟩
theorem un3 : Tryz.prog.underlying 3 = some (.int .i64) := by kernel_rfl
instance z158 : ZeO Tryz.prog 158 [.raw .nilFunc] := ⟨by kernel_rfl⟩
theorem flat_take_succ {α : Type} {L : List (List α)} {k : Nat} (h : k < L.length) : (L.take (k + 1)).flatten = (L.take k).flatten ++ L[k] := by
  rw [List.take_succ_eq_append_getElem h, List.flatten_append]; simp
theorem flat_take_le {α : Type} (L : List (List α)) (k : Nat) : (L.take k).flatten.length ≤ L.flatten.length := by
  conv => rhs; rw [← List.take_append_drop k L, List.flatten_append, List.length_append]
  omega
theorem ngrow_call (n : Nat) (hn : n ≤ 100000000) : ACall Tryz.prog 166 [.raw (.slice none 0 0), I n] [] (fun x H' => H' = [.tok 0] ∧ x = .ret (.own 0 1 [])) := by
  refine ACall.fresh (sz := 1) (H := []) ?_ rfl
  refine acall_of (rs := [.tmp 4]) Tryz.func166 rfl rfl (Nat.le_of_ble_eq_true rfl) fun e0 he0 => ?_
  refine wz 3 ?_
  refine iz (fun c1 c1' => ?_) (fun c1 c1' => ?_)
  ·exfalso
   omega
  refine wz 2 ?_
  refine sq_ev rfl (ev_cap_nil sl31.h jz) ?_
  refine wz 1 ?_
  refine sq_ev rfl (ev_len (n := 0) sl31.h (less_nil _) rfl) ?_
  refine wz 5 ?_
  refine iz (fun c2 c2' => ?_) (fun c2 c2' => ?_)
  ·refine wz 0 ?_
   refine sq_ev rfl (ev_mv (v := .raw _) jz) ?_
   refine wz 1 ?_
   refine sq_ev rfl (ev_cap_nil sl31.h jz) ?_
   refine sq_ev rfl (ev_slice_nil sl31.h jz jz) ?_
   refine wz 1 ?_
   refine sq_append_make (n := n) rfl sf31.h un3 (by decide) jz (less_int (by omega)) (by omega) (by omega) (by omega) fun cap hcap => ?_
   refine wz 1 ?_
   refine sq_ev rfl (ev_len (n := 0) sl31.h (less_nil _) rfl) ?_
   refine sq_ev rfl (ev_slice_msl (hi := 0) sl31.h jz jz (by omega)) ?_
   refine wz 3 ?_
   exact ⟨rfl, _, rfl, .inr ⟨cap, _, rfl, by simp, rfl⟩⟩
  obtain rfl : n = 0 := by omega
  refine wz 2 ?_
  exact ⟨rfl, _, rfl, .inl ⟨rfl, rfl⟩⟩
theorem nconcat_pure (L : List (List Int)) (hb : L.flatten.length ≤ 1000000) (hL : L.length ≤ 1000000) : APure Tryz.prog 137 [hds L] (ints L.flatten) := by
  refine ap Tryz.func137 (fun e0 he0 => ?_) (hr := by simp [AV.pureL, AV.pureB, AV.pureE, pureE_map, -List.map_flatten])
  refine wz 5 ?_
  refine aw_loopk (ι := { k : Nat // k ≤ L.length }) [0, 9, 10] (fun i => [(11, I i.1), (3, I ((L.take i.1).flatten.length : Int))]) (fun H i => H) (fun i => L.length - i.1) (⟨0, Nat.zero_le _⟩) ⟨jz, jz, jz, jz, jz, trivial⟩ rfl ?_
  rintro ⟨k, hk⟩
  refine nz ?_
  have ht1 := flat_take_le L k
  have ht2 := flat_take_le L (k + 1)
  refine wz 1 ?_
  refine iz (fun c1 c1' => ?_) (fun c1 c1' => ?_)
  ·have hk' : k < L.length := by omega
   have eN : ((L.take k).flatten.length : Int) + (L[k].length : Int) = ((L.take (k + 1)).flatten.length : Int) := by rw [flat_take_succ hk', List.length_append]; omega
   refine wz 10 ?_
   refine iz (fun c2 c2' => ?_) (fun c2 c2' => ?_)
   ·exfalso
    omega
   refine wz 2 ?_
   exact ⟨⟨k + 1, by omega⟩, by simp only; omega, Sub.slots ⟨jz, (by exact less_int eN), jz, jz, jz, trivial⟩⟩
  obtain rfl : k = L.length := by omega
  refine wz 1 ?_
  refine sq_call (args := [.raw (.slice none 0 0), I (L.take L.length).flatten.length]) rfl en166.h jz ⟨jz, jz, trivial⟩ (ngrow_call _ (by have := flat_take_le L L.length; omega)) ?_ (by rintro v H' ⟨_, h⟩; cases h)
  rintro _ _ ⟨rfl, h⟩; cases h
  refine sq_ev rfl (ev_as (v := .own _ _ _) jz) ?_
  refine wz 3 ?_
  refine aw_loopk (ι := { k : Nat // k ≤ L.length }) [25, 26] (fun i => [(27, I i.1), (6, .own 0 1 (((L.take i.1).flatten).map fun x => [I x]))]) (fun H i => H.set 0 (.tok (((L.take i.1).flatten).map fun x => [I x]).length)) (fun i => L.length - i.1) (⟨0, Nat.zero_le _⟩) ⟨jz, jz, jz, jz, trivial⟩ rfl ?_
  rintro ⟨k, hk⟩
  refine nz ?_
  have ht1 := flat_take_le L k
  have ht2 := flat_take_le L (k + 1)
  refine wz 1 ?_
  refine iz (fun c3 c3' => ?_) (fun c3 c3' => ?_)
  ·have hk' : k < L.length := by omega
   have eS : ((L.take (k + 1)).flatten).map (fun x => [I x]) = ((L.take k).flatten).map (fun x => [I x]) ++ (L[k]).map (fun x => [I x]) := by rw [flat_take_succ hk', List.map_append]
   refine wz 3 ?_
   refine sq_ev rfl (ev_mv (v := .own _ _ _) jz) ?_
   refine wz 1 ?_
   refine sq_append' rfl sf31.h Tryz.underlying31 rfl rfl jz (by simp only [List.length_map]; rw [flat_take_succ hk', List.length_append] at ht2; omega) (by simp only [List.length_map]; rw [flat_take_succ hk', List.length_append] at ht2; omega) ?_
   refine sq_ev rfl (ev_as (v := .own _ _ _) jz) ?_
   refine wz 2 ?_
   exact ⟨⟨k + 1, by omega⟩, by simp only; omega, sb 1 ⟨jz, Less.eq (b := .own 0 1 (((L.take (k + 1)).flatten).map fun x => [I x])) (by rw [eS] <;> rfl), jz, jz, trivial⟩ (hH := (congrArg (fun n => [AObj.tok n]) (congrArg List.length eS.symm))) (h1 := by simp [slotsIn, objsIn, sget, keepS, AObj.inB, AV.inB, AV.inL, AV.inE, inE_map, inE_ints, -List.map_flatten, inE_sc, -List.map_append, -List.map_take, -List.map_map]) (h2 := by simp [slotsIn, objsIn, sget, keepS, AObj.inB, AV.inB, AV.inL, AV.inE, inE_map, inE_ints, -List.map_flatten, inE_sc, -List.map_append, -List.map_take, -List.map_map])⟩
  obtain rfl : k = L.length := by omega
  refine wz 0 ?_
  refine sq_ev rfl (ev_mv (v := .own _ _ _) jz) ?_
  refine sq_ev rfl (ev_as (v := .own _ _ _) jz) ?_
  refine wz 0 ?_
  exact retQ_pure (v := .own _ _ _) rfl rfl (Less.trans (less_own _ _ _) (Less.eq (by simp)))
abbrev toC (s : Sto) : List AV := tolC s (manT s) (lonT s)
abbrev drvA (d : Drv) : AV := .agg [ints d.1, ints d.2]
abbrev derC (s : Sto) (N : Nat) : List AV := [.iptr (toC s), .ptr (N + 0) 0, .ptr (N + 1) 0, .ptr (N + 2) 0]
abbrev derV (s : Sto) (N : Nat) : AV := .fn (.func 134) [] (derC s N)
abbrev locD (s : Sto) (l N : Nat) (a : AV) (G : List AObj) : List AObj := .cells [.fn (.yield l) [] []] :: .cells [a] :: .cells [derV s N] :: G
theorem now_mono {N : Nat} {G X : List AObj} {a : AV} {now : List Nat} (h : NowIs N G a now) : NowIs N (G ++ X) a now := by
  rcases h with h | ⟨j, cap, rs, h1, h2, h3, h4⟩
  · exact .inl h
  · exact .inr ⟨j, cap, rs, h1, lookL h2, h3, h4⟩
theorem nowD_obj {o0 o1 o2 : AObj} {N : Nat} {G T : List AObj} {now : List Nat} {j : Nat} {rs : List AV} (hT : T.length = N) (h : G[j]? = some (.cells ((now.map fun (x : Nat) => [I x]).flatten ++ rs))) :
    (T ++ o0 :: o1 :: o2 :: G)[N + (3 + j)]? = some (.cells ((now.map fun (x : Nat) => [I x]).flatten ++ rs)) := by
  subst hT
  refine lookP ?_
  rw [show 3 + j = j + 1 + 1 + 1 by omega]
  simpa using h
theorem nowD_clone {o0 o1 o2 : AObj} {N : Nat} {a : AV} {G T : List AObj} {now : List Nat} (hc : now.length ≤ 1000000) (hT : T.length = N) (h : NowIs N G a now) : AQuiet Tryz.prog 94 [a] (T ++ o0 :: o1 :: o2 :: G) (ints (up now)) := by
  rcases h with ⟨rfl, rfl⟩ | ⟨j, cap, rs, rfl, hj, hrs, hle⟩
  · exact nclone_nil _
  · exact nclone_quiet (j := N + (3 + j)) (n := now.length) (cap := cap) (es := up now) (rs := rs) (by rw [up_map]; exact nowD_obj hT hj) (by simp [up]) (by simp [up]; omega)
section app
variable {c : Ctx} {ops : Array Oper} {Q : AExit → St → Prop} {rest : List Oper} {i : Nat} {sl : List (Nat × AV)} {df : List ADef}
variable {d : Option Tmp} {t : TypeId} {pp : String} {af : Array Edge}
theorem sq_nowD {o0 o1 o2 : AObj} {N : Nat} {a : AV} {G T : List AObj} {now : List Nat} {x y : Operand} {n : Nat} (hP : c.P = Tryz.prog) (hd : dOK c.nt d = true) (hc : now.length ≤ 1000000) (hT : T.length = N) (h : NowIs N G a now)
    (hx : Less ((⟨sl, T ++ o0 :: o1 :: o2 :: G, df⟩ : St).op x) a) (hy : Less ((⟨sl, T ++ o0 :: o1 :: o2 :: G, df⟩ : St).op y) (.sl 1 [[I n]]))
    (k : ∀ a' G', NowIs N G' a' (now ++ [n]) → SeqWP c ops Q (i + 1) rest (St.put ⟨sl, T ++ o0 :: o1 :: o2 :: G', df⟩ d a')) :
    SeqWP c ops Q i (⟨d, .call ⟨.builtin .append, #[x, y], #[31, 31]⟩, t, pp, af, none⟩ :: rest) ⟨sl, T ++ o0 :: o1 :: o2 :: G, df⟩ := by
  have hlen : (T ++ o0 :: o1 :: o2 :: G).length = N + (3 + G.length) := by rw [List.length_append, hT]; simp; omega
  rcases h with ⟨rfl, rfl⟩ | ⟨j, cap, rs, rfl, hj, hrs, hle⟩
  · refine sq_append_msl (xs := [[I n]]) hd (by rw [hP]; exact sf31.h) (by rw [hP]; exact Tryz.underlying31) (hx.trans (less_nilx 1)) hy (by simp) (by simp) (by simp) fun cap hcap => ?_
    rw [hlen]
    have e1 : T ++ o0 :: o1 :: o2 :: G ++ [.cells ([[I (n : Int)]].flatten ++ List.replicate ((cap - [[I (n : Int)]].length) * 1) .any)] = T ++ o0 :: o1 :: o2 :: (G ++ [.cells ([[I (n : Int)]].flatten ++ List.replicate ((cap - [[I (n : Int)]].length) * 1) .any)]) := by simp
    rw [e1]
    refine k _ _ (.inr ⟨G.length, cap, List.replicate ((cap - 1) * 1) .any, rfl, ?_, ?_, ?_⟩)
    · simp
    · simp
    · simpa using hcap
  · have ho := nowD_obj (o0 := o0) (o1 := o1) (o2 := o2) hT hj
    refine sq_append_m (es := now.map fun (x : Nat) => [I (x : Int)]) (xs := [[I n]]) (rs := rs) hd (by rw [hP]; exact sf31.h) (by rw [hP]; exact Tryz.underlying31) hx ho (by simp) (sz1 now) hrs hy (by simp; omega) (by simp; omega) (fun hfit => ?_) (fun cap' hcap => ?_)
    · have e1 : (T ++ o0 :: o1 :: o2 :: G).set (N + (3 + j)) (.cells ((now.map (fun (x : Nat) => [I (x : Int)]) ++ [[I (n : Int)]]).flatten ++ rs.drop ([[I (n : Int)]].length * 1))) =
          T ++ o0 :: o1 :: o2 :: (G.set j (.cells ((now.map (fun (x : Nat) => [I (x : Int)]) ++ [[I (n : Int)]]).flatten ++ rs.drop ([[I (n : Int)]].length * 1)))) := by
        subst hT
        rw [setP, show 3 + j = j + 1 + 1 + 1 by omega]; rfl
      simp only [e1]
      refine k _ _ (.inr ⟨j, cap, rs.drop 1, ?_, ?_, ?_, ?_⟩)
      · simp
      · rw [List.getElem?_set_self (lt_of_get? hj)]; simp
      · simp only [List.length_drop, List.length_append, List.length_singleton, hrs]; omega
      · simpa using hfit
    · rw [hlen]
      have e1 : T ++ o0 :: o1 :: o2 :: G ++ [.cells ((now.map (fun (x : Nat) => [I (x : Int)]) ++ [[I (n : Int)]]).flatten ++ List.replicate ((cap' - (now.length + [[I (n : Int)]].length)) * 1) .any)] =
          T ++ o0 :: o1 :: o2 :: (G ++ [.cells ((now.map (fun (x : Nat) => [I (x : Int)]) ++ [[I (n : Int)]]).flatten ++ List.replicate ((cap' - (now.length + [[I (n : Int)]].length)) * 1) .any)]) := by simp
      rw [e1]
      refine k _ _ (.inr ⟨G.length, cap', List.replicate ((cap' - (now.length + 1)) * 1) .any, ?_, ?_, ?_, ?_⟩)
      · simp
      · simp
      · simp
      · simpa using hcap
end app
theorem dx0 {s : Sto} {l N : Nat} {a : AV} {G T : List AObj} (hT : T.length = N) : (T ++ locD s l N a G)[N + 0]? = some (.cells [.fn (.yield l) [] []]) := by subst hT; exact lookP rfl
theorem dx1 {s : Sto} {l N : Nat} {a : AV} {G T : List AObj} (hT : T.length = N) : (T ++ locD s l N a G)[N + 1]? = some (.cells [a]) := by subst hT; exact lookP rfl
theorem dx2 {s : Sto} {l N : Nat} {a : AV} {G T : List AObj} (hT : T.length = N) : (T ++ locD s l N a G)[N + 2]? = some (.cells [derV s N]) := by subst hT; exact lookP rfl
structure ItD (e : Env) (l m : Nat) (st : Bool) (T : Nat → List AObj) (xs : List AV) : Prop where
  hT : ∀ i, (T i).length = (T 0).length
  hm : m ≤ xs.length
  all : st = false → m = xs.length
  pos : st = true → 0 < m
  hy : ∀ i x, i < m → xs[i]? = some x → ∀ X, AYieldAt e Tryz.prog l x (T i ++ X) (goes m st i) (T (i + 1) ++ X)
theorem goesD_no {m k : Nat} {st : Bool} (h : goes m st k = false) : st = true ∧ k + 1 = m := by
  unfold goes at h
  cases hst : st with
  | false => rw [hst] at h; cases h
  | true => rw [hst] at h; exact ⟨rfl, Nat.eq_of_beq_eq_true (by simpa using h)⟩
theorem goesD_yes {m k : Nat} {st : Bool} (h : goes m st k = true) (hk : k < m) : st = true → k + 1 < m := by
  intro hst
  unfold goes at h
  rw [hst] at h
  have : k + 1 ≠ m := Nat.ne_of_beq_eq_false (by simpa using h)
  omega
def DerR (s : Sto) (l m : Nat) (st : Bool) (T : Nat → List AObj) (now : List Nat) (a : Nat) (D : List Drv) : ARes → List AObj → Prop := fun y H' =>
  ∃ c : Bool, y = .ret (B c) ∧ (c = false → st = true ∧ m ≤ a + D.length ∧ ∃ X, H' = T m ++ X) ∧ (c = true → (st = true → a + D.length < m) ∧ ∃ av G, NowIs (T 0).length G av now ∧ H' = T (a + D.length) ++ locD s l (T 0).length av G)
theorem up_snoc (now : List Nat) (k : Nat) : up (now ++ [k]) = up now ++ [(k : Int)] := by simp [up]
theorem dvK_le (s : Sto) (form rs : List Int) (i : Nat) {a b : Nat} (h : a ≤ b) : (dvK s form rs i a).length ≤ (dvK s form rs i b).length := by
  obtain ⟨c, rfl⟩ : ∃ c, b = a + c := ⟨b - a, by omega⟩
  unfold dvK
  rw [List.range_add, List.flatMap_append, List.length_append]; omega
theorem dv_get {s : Sto} (B : ParB s) {form rs : List Int} {i k j : Nat} {y : Drv} (h : fstE s form = some i) (hi : i < form.length) (hk : k < s.rules.length) (ht : takes s form[i] s.rules[k] = true)
    (hj : (dv s (putF form i s.rules[k].to) (rs ++ [(k : Int)]))[j]? = some y) : (dv s form rs)[(dvK s form rs i k).length + j]? = some y := by
  have e1 : dv s form rs = dvK s form rs i k ++ (dv s (putF form i s.rules[k].to) (rs ++ [(k : Int)]) ++ (((List.range (s.rules.length - (k + 1))).map (k + 1 + ·)).flatMap fun n => if takes s (form.getD i 0) (s.rules.getD n ⟨0, []⟩) = true then dv s (putF form i (s.rules.getD n ⟨0, []⟩).to) (rs ++ [(n : Int)]) else [])) := by
    rw [← List.append_assoc, ← dvK_yes hk hi ht, dv_some B h]
    unfold dvK
    rw [← List.flatMap_append, ← List.range_add, show k + 1 + (s.rules.length - (k + 1)) = s.rules.length by omega]
  rw [e1, List.getElem?_append_right (Nat.le_add_right _ _), Nat.add_sub_cancel_left, List.getElem?_append_left (lt_of_get? hj)]
  exact hj
theorem tokD (A : List AObj) (a b : Nat) : (A ++ [AObj.tok a]).set A.length (.tok b) = A ++ [.tok b] := by
  rw [List.set_append_right _ _ (Nat.le_refl _)]; simp
theorem der1_pure (s : Sto) (n : Int) : APure Tryz.prog 136 [I n, .iptr (toC s)] (B (decide (n < s.eps))) := by
  refine ap Tryz.func136 (fun e0 he0 => ?_)
  refine wz 7 ?_
  exact rz rfl jz
theorem fst_pure (s : Sto) (form : List Int) (hf : form.length ≤ 1000000) : APure Tryz.prog 135 [ints form, .fn (.func 136) [] [.iptr (toC s)]] (I (ixQ (fun n => decide (n < s.eps)) form)) :=
  intF_ix (cap := [.iptr (toC s)]) form hf en136.h (fun i hi => der1_pure s _) (by simp [AV.pureL, AV.pureB])
theorem fst_none {s : Sto} {form : List Int} (h : fstE s form = none) (hf : form.length ≤ 1000000) : APure Tryz.prog 135 [ints form, .fn (.func 136) [] [.iptr (toC s)]] (I (-1)) := by
  have q := fst_pure s form hf; unfold ixQ at q; unfold fstE at h; rw [h] at q; exact q
theorem fst_some {s : Sto} {form : List Int} {i : Nat} (h : fstE s form = some i) (hf : form.length ≤ 1000000) : APure Tryz.prog 135 [ints form, .fn (.func 136) [] [.iptr (toC s)]] (I i) := by
  have q := fst_pure s form hf; unfold ixQ at q; unfold fstE at h; rw [h] at q; exact q
theorem ends_some {s : Sto} (B' : ParB s) {r : Rul} (hr : r ∈ s.rules) : APure Tryz.prog 80 [.agg (toC s), .agg (rulC r)] (B (endR s r)) := by
  have hto := B'.ru r hr
  have hep := B'.ep
  have hl : (manT s).length = motN s := by simp [manT]
  have hN := mot_N B'
  have hn : ∀ n ∈ r.to, 0 ≤ n ∧ n < (manT s).length := fun n hn => by have := hto.2.2 n hn; rw [hl]; omega
  have q := ends_pure s (manT s) (lonT s) r (by omega) hn
  rwa [endT_is B' hr (fun n h => by
    have h2 := hto.2.2 n h
    rw [Hd.getD_at (by have := hn n h; omega), ← manV_at s (by omega)]; simp [manT])] at q
theorem der_zero {s : Sto} (gB : ParB s) {e : Env} {l m : Nat} {st : Bool} {T : Nat → List AObj} {xs : List AV} (it : ItD e l m st T xs) {form : List Int} (gF : FrmB s form) {now : List Nat} {a : Nat} {av : AV} {G : List AObj} (hnl : now.length + wt s form ≤ 100000) (hnow : NowIs (T 0).length G av now) (hkm : st = true → a < m) (hseg : ∀ i y, (dv s form (up now))[i]? = some y → xs[a + i]? = some (drvA y)) (hfi : fstE s form = none) : ACallE e Tryz.prog 134 (ints (form) :: derC s (T 0).length) (T (a) ++ locD s l (T 0).length av G) (DerR s l m st T now (a) [(up now, form.map fun n => n - s.eps)]) := by
  refine acallE_of_marks (rs := [.tmp 6]) Tryz.func134 rfl rfl (Nat.le_of_ble_eq_true rfl) fun e0 hle he0 => ?_
  refine aw_seq ?_
  have hfl := gF.len
  have hTa := it.hT a
  have hD := dv_none (s := s) (form := form) (rs := up now) hfi
  have hxa : xs[a]? = some (drvA (up now, form.map fun n => n - s.eps)) := hseg 0 _ (by rw [hD]; rfl)
  have ham : a < m := by cases hst : st with | true => exact hkm hst | false => (have h1 := it.all hst; have := lt_of_get? hxa; omega)
  have hns := gB.ns
  have hep := gB.ep
  refine wz 3 ?_
  refine kz az (fst_none hfi (by omega)) ?_
  refine wz 2 ?_
  refine sq_ev rfl (ev_less (ev_lss jz jz) (Less.eq (b := B true) (by rfl))) ?_
  refine vz 5 ?_
  refine sq_nil ?_
  refine aw_block ?_
  generalize hA : T a ++ locD s l (T 0).length av G = A
  refine aw_sub (sub_token 8 1 jz) ?_
  refine aw_loopk (ι := { k : Nat // k ≤ form.length }) [1, 2, 3, 18, 19] (fun g => [(8, .own A.length 1 ((form.take g.1).map fun n => [I (n - s.eps)])), (20, I (g.1 : Nat))]) (fun H g => A ++ [.tok ((form.take g.1).map fun n => [I (n - s.eps)]).length]) (fun g => form.length - g.1) (⟨0, Nat.zero_le _⟩) ⟨jz, jz, jz, jz, jz, jz, jz, trivial⟩ rfl ?_
  rintro ⟨k, hk⟩
  refine nz ?_
  refine wz 1 ?_
  refine iz (fun c_21 c_21' => ?_) (fun c_21 c_21' => ?_)
  ·have hkL : k < form.length := by omega
   have hmk := gF.mem _ (List.getElem_mem hkL)
   have eS : ((form.take (k + 1)).map fun n => [I (n - s.eps)]) = ((form.take k).map fun n => [I (n - s.eps)]) ++ [[I (form[k] - s.eps)]] := by rw [List.take_succ_eq_append_getElem hkL, List.map_append]; rfl
   refine wz 9 ?_
   refine sq_ev rfl (ev_buildSlice (es := [[_]]) sf31.h rfl rfl rfl rfl) ?_
   refine sq_append' (j := A.length) (es := ((form.take k).map fun n => [I (n - s.eps)])) rfl sf31.h Tryz.underlying31 rfl (look_end A _) (less_slx 1 [[I (form[k] - s.eps)]]) (by simp; omega) (by simp; omega) ?_
   refine wz 3 ?_
   exact ⟨⟨k + 1, by omega⟩, by simp only; omega, Sub.at ⟨Less.eq (b := .own A.length 1 ((form.take (k + 1)).map fun n => [I (n - s.eps)])) (by rw [eS] <;> rfl), jz, jz, jz, jz, jz, jz, trivial⟩ ((tokD A _ _).trans (congrArg (fun n => A ++ [AObj.tok n]) (congrArg List.length eS.symm)))⟩
  obtain rfl : k = form.length := by omega
  refine aw_exit ?_
  refine aw_seq ?_
  subst hA
  refine aw_norm (H' := T a ++ locD s l (T 0).length av (G ++ [AObj.tok ((form.take form.length).map fun n => [I (n - s.eps)]).length])) (List.append_assoc (T a) (locD s l (T 0).length av G) [AObj.tok ((form.take form.length).map fun n => [I (n - s.eps)]).length]) ?_
  have ePL : ((form.take form.length).map fun n => [I (n - s.eps)]) = (form.map fun n => n - s.eps).map fun x => [I x] := by rw [List.take_length, List.map_map]; rfl
  refine aw_draw 5 mo (by kernel_rfl) ?_
  refine dr_ev rfl (ev_load jz (dx0 hTa) ty212.h rfl) ?_
  refine dr_ev rfl (ev_load jz (dx1 hTa) ty31.h rfl) ?_
  refine dr_ev rfl (ev_callQ en94.h jz (nowD_clone (by omega) hTa (now_mono hnow)) ⟨jz, trivial⟩) ?_
  refine dr_ev rfl (ev_less (ev_mv (v := .own _ _ _) jz) (less_own _ _ _)) ?_
  refine dz 1 ?_
  refine sq_yield hle rfl jz ?_ (it.hy _ _ ham hxa _) ?_
  ·exact Less.eq (congrArg (fun L => AV.agg [ints (up now), AV.sl 1 L]) ePL)
  refine wz 1 ?_
  exact ⟨_, .raw _, rfl, rfl, goes m st a, rfl, fun h => ⟨(goesD_no h).1, Nat.le_of_eq (goesD_no h).2.symm, _, congrArg (fun n => T n ++ locD s l (T 0).length av (G ++ [AObj.tok ((form.take form.length).map fun n => [I (n - s.eps)]).length])) (goesD_no h).2⟩, fun h => ⟨goesD_yes h ham, av, _, now_mono hnow, rfl⟩⟩
end Go.Proofs.YtnbjaepkbabkhaaGreat
namespace Go.Proofs.YtnbjaepkbabkhaaGreat
open Go Go.Ab Br Hd
open Ni hiding fw bw lo hi can
instance en133 : EnT Tryz.prog 133 := ⟨Ent.of Tryz.func133 (by kernel_rfl) rfl⟩
instance en82 : EnT Tryz.prog 82 := ⟨Ent.of Tryz.func82 (by kernel_rfl) rfl⟩
theorem der_succ {s : Sto} (gB : ParB s) {e : Env} {l m : Nat} {st : Bool} {T : Nat → List AObj} {xs : List AV} (it : ItD e l m st T xs) {form : List Int} (gF : FrmB s form) {now : List Nat} {a : Nat} {av : AV} {G : List AObj} {w : Nat} (hw : wt s form = w) (ih : ∀ {form : List Int} (gF : FrmB s form) {now : List Nat} {a : Nat} {av : AV} {G : List AObj} (hw : wt s form < w) (hnl : now.length + wt s form ≤ 100000) (hnow : NowIs (T 0).length G av now) (hkm : st = true → a < m) (hseg : ∀ i y, (dv s form (up now))[i]? = some y → xs[a + i]? = some (drvA y)), ACallE e Tryz.prog 134 (ints (form) :: derC s (T 0).length) (T (a) ++ locD s l (T 0).length av G) (DerR s l m st T now (a) (dv s form (up now)))) (hnl : now.length + wt s form ≤ 100000) (hnow : NowIs (T 0).length G av now) (hkm : st = true → a < m) (hseg : ∀ i y, (dv s form (up now))[i]? = some y → xs[a + i]? = some (drvA y)) {i : Nat} (hfi : fstE s form = some i) : ACallE e Tryz.prog 134 (ints (form) :: derC s (T 0).length) (T (a) ++ locD s l (T 0).length av G) (DerR s l m st T now (a) (dv s form (up now))) := by
  refine acallE_of_marks (rs := [.tmp 6]) Tryz.func134 rfl rfl (Nat.le_of_ble_eq_true rfl) fun e0 hle he0 => ?_
  refine aw_seq ?_
  have hfl := gF.len
  have hns := gB.ns
  have hep := gB.ep
  have hnr := gB.nr
  obtain ⟨hiL, him, _⟩ := fstE_some hfi
  have hdv := dv_some (s := s) gB (rs := up now) hfi
  refine wz 3 ?_
  refine kz az (fst_some hfi (by omega)) ?_
  refine wz 2 ?_
  refine sq_ev rfl (ev_less (ev_lss jz jz) (Less.eq (b := B false) (by simp))) ?_
  refine vz 6 ?_
  refine sq_nil ?_
  refine aw_block ?_
  have hav := hnow
  refine aw_loopk (ι := { g : Nat × AV × List AObj // g.1 ≤ s.rules.length ∧ NowIs (T 0).length g.2.2 g.2.1 now ∧ (st = true → a + (dvK s form (up now) i (g.1)).length < m) }) [0, 1, 3, 4, 7, 42] (fun g => [(43, I (g.1.1 : Nat))]) (fun H g => T (a + (dvK s form (up now) i (g.1.1)).length) ++ locD s l (T 0).length g.1.2.1 g.1.2.2) (fun g => s.rules.length - g.1.1) (⟨(0, av, G), Nat.zero_le _, hnow, hkm⟩) ⟨jz, jz, jz, jz, jz, jz, jz, trivial⟩ rfl ?_
  rintro ⟨⟨k, av, G⟩, hk, hnow, hkd⟩
  refine nz ?_
  dsimp only at hk hnow hkd
  have hTk := it.hT (a + (dvK s form (up now) i (k)).length)
  refine wz 1 ?_
  refine iz (fun c_44 c_44' => ?_) (fun c_44 c_44' => ?_)
  ·have hkL : k < s.rules.length := by omega
   have hrm := List.getElem_mem hkL
   have hto := gB.ru _ hrm
   refine wz 8 ?_
   refine sq_allocP (H0 := T (a + (dvK s form (up now) i (k)).length)) (X := locD s l (T 0).length av G) rfl z104.h ?_
   refine sq_storeE (A := T (a + (dvK s form (up now) i (k)).length)) (X := locD s l (T 0).length av G) rfl rfl jz jz rfl ty104.h rfl rfl ?_
   refine sq_frz (A := T (a + (dvK s form (up now) i (k)).length)) (X := locD s l (T 0).length av G) [0, 1, 3, 4, 7, 11, 42, 43] 12 rfl ?_
   refine sq_nil ?_
   refine aw_seq ?_
   refine aw_seq ?_
   refine aw_norm (H' := T (a + (dvK s form (up now) i (k)).length) ++ locD s l (T 0).length av (G ++ [AObj.dead])) rfl ?_
   refine aw_draw 13 mo (by kernel_rfl) ?_
   refine dz 4 ?_
   refine dr_ev rfl (ev_index_map (k := i) (xs := form) sl31.h jz jz rfl hiL) ?_
   refine dz 3 ?_
   refine dsz 59 (fun g14_7 g14_7' => ?_) (fun g14_7 g14_7' => ?_)
   ·have htk : takes s form[i] s.rules[k] = false := by unfold takes; rw [decide_eq_false g14_7']; rfl
    have eD : a + (dvK s form (up now) i (k)).length = a + (dvK s form (up now) i (k + 1)).length := by rw [dvK_no hkL hiL htk]
    have hnx : st = true → a + (dvK s form (up now) i (k + 1)).length < m := by rw [← eD]; exact hkd
    refine dz 5 ?_
    refine wz 3 ?_
    exact ⟨⟨(k + 1, av, G ++ [AObj.dead]), by simp only; omega, now_mono hnow, hnx⟩, by simp only; omega, Sub.at ⟨(by exact less_int (by simp <;> omega)), jz, jz, jz, jz, jz, jz, trivial⟩ (congrArg (fun d => T d ++ locD s l (T 0).length _ _) eD)⟩
   have hfr : s.rules[k].frm = form[i] := g14_7'
   refine dz 2 ?_
   refine dky az (ends_some gB hrm) ?_
   refine dz 2 ?_
   refine wz 0 ?_
   refine iz (fun c_64 c_64' => ?_) (fun c_64 c_64' => ?_)
   ·have htk : takes s form[i] s.rules[k] = false := by unfold takes; rw [c_64']; simp
    have eD : a + (dvK s form (up now) i (k)).length = a + (dvK s form (up now) i (k + 1)).length := by rw [dvK_no hkL hiL htk]
    have hnx : st = true → a + (dvK s form (up now) i (k + 1)).length < m := by rw [← eD]; exact hkd
    refine wz 2 ?_
    exact ⟨⟨(k + 1, av, G ++ [AObj.dead]), by simp only; omega, now_mono hnow, hnx⟩, by simp only; omega, Sub.at ⟨(by exact less_int (by simp <;> omega)), jz, jz, jz, jz, jz, jz, trivial⟩ (congrArg (fun d => T d ++ locD s l (T 0).length _ _) eD)⟩
   have htk : takes s form[i] s.rules[k] = true := by unfold takes; rw [decide_eq_true hfr, c_64']; rfl
   have hwp := wt_put gB hiL him hrm hfr
   have hgF2 := gF.put gB hiL him hrm htk
   have hsg2 : ∀ j y, (dv s (putF form i s.rules[k].to) (up (now ++ [k])))[j]? = some y → xs[a + (dvK s form (up now) i (k)).length + j]? = some (drvA y) := fun j y hy => by rw [up_snoc] at hy; rw [Nat.add_assoc]; exact hseg _ y (dv_get gB hfi hiL hkL htk hy)
   have hl2 := hgF2.len
   have e1 : ((form.map fun x => [I x]).take i).drop 0 = (form.take i).map fun x => [I x] := by rw [List.drop_zero, List.map_take]
   have e2 : ((form.map fun x => [I x]).take form.length).drop (i + 1) = (form.drop (i + 1)).map fun x => [I x] := by rw [List.take_of_length_le (by simp), List.map_drop]
   have e3 : [form.take i, s.rules[k].to, form.drop (i + 1)].flatten = putF form i s.rules[k].to := by simp [putF]
   have hpl : (form.take i ++ (s.rules[k].to ++ form.drop (i + 1))).length ≤ 10 := hl2
   have eD : a + (dvK s form (up now) i (k)).length + (dv s (putF form i s.rules[k].to) (up (now ++ [k]))).length = a + (dvK s form (up now) i (k + 1)).length := by rw [dvK_yes hkL hiL htk, List.length_append, up_snoc]; omega
   refine wz 0 ?_
   refine sq_ev rfl (ev_load jz (dx1 hTk) ty31.h rfl) ?_
   refine wz 1 ?_
   refine sq_ev rfl (ev_buildSlice (es := [[_]]) sf31.h rfl rfl rfl rfl) ?_
   refine sq_nowD (n := k) rfl rfl (by omega) hTk (now_mono (X := [AObj.dead]) hnow) jz ((less_slx 1 [[I (k : Int)]]).trans (Less.eq (by simp))) fun av2 G2 hnow2 => ?_
   refine sq_storeP (H0 := T (a + (dvK s form (up now) i (k)).length)) (X := locD s l (T 0).length av G2) (j := 1) rfl (Less.eq (by rw [hTk]; rfl)) jz (now_cells hnow2) rfl ty31.h rfl rfl ?_
   refine sq_nil ?_
   refine aw_seq ?_
   refine aw_seq ?_
   refine aw_norm (H' := T (a + (dvK s form (up now) i (k)).length) ++ locD s l (T 0).length av2 G2) rfl ?_
   refine aw_draw 12 mo (by kernel_rfl) ?_
   refine dr_ev rfl (ev_load jz (dx2 hTk) ty158.h rfl) ?_
   refine dz 2 ?_
   refine dr_ev rfl (ev_less (ev_slice (lo := 0) (hi := i) sl31.h jz rfl jz (by omega) (by simp; omega)) (Less.eq (b := ints (form.take i)) (congrArg (AV.sl 1) e1))) ?_
   refine dz 5 ?_
   refine dr_ev rfl (ev_less (ev_slice (lo := i + 1) (hi := form.length) sl31.h jz (by exact less_int (by omega)) (by simp) (by omega) (by simp)) (Less.eq (b := ints (form.drop (i + 1))) (congrArg (AV.sl 1) e2))) ?_
   refine dr_ev rfl (ev_buildSlice (es := [[_], [_], [_]]) sf35.h rfl rfl rfl rfl) ?_
   refine dr_ev rfl (ev_call en137.h jz (nconcat_pure [form.take i, s.rules[k].to, form.drop (i + 1)] (by simp; omega) (by simp)) ⟨less_slx 1 [[ints (form.take i)], [ints s.rules[k].to], [ints (form.drop (i + 1))]], trivial⟩) ?_
   refine dr_end ?_
   refine sq_callE (es := e) hle rfl en134.h jz (args := ints (putF form i s.rules[k].to) :: derC s (T 0).length) ⟨(Less.eq (congrArg ints e3)), jz, jz, jz, jz, trivial⟩ (ih hgF2 (by omega) (by simp; omega) hnow2 hkd hsg2) ?_ (by rintro v H' ⟨_, h, _⟩; cases h)
   rintro _ H3 ⟨c, hcv, hcf, hct⟩
   cases hcv
   refine wz 1 ?_
   refine iz (fun c_82 c_82' => ?_) (fun c_82 c_82' => ?_)
   ·obtain ⟨hst, hge, X, rfl⟩ := hcf (by simpa using c_82)
    refine wz 1 ?_
    exact ⟨_, .raw _, rfl, rfl, false, rfl, fun _ => ⟨hst, by rw [hdv]; have := dvK_le s form (up now) i (a := k + 1) (b := s.rules.length) (by omega); omega, X, rfl⟩, fun h => by cases h⟩
   obtain ⟨hlt, av3, G3, hnow3, rfl⟩ := hct (by simpa using c_82)
   have hTb := it.hT (a + (dvK s form (up now) i (k)).length + (dv s (putF form i s.rules[k].to) (up (now ++ [k]))).length)
   have hnx : st = true → a + (dvK s form (up now) i (k + 1)).length < m := by rw [← eD]; exact hlt
   refine aw_skip ?_
   rcases hnow3 with ⟨_, h0⟩ | ⟨j, cap, rs, rfl, hj, hrs, hcap⟩
   ·simp at h0
   rw [List.length_append, List.length_singleton] at hrs hcap
   refine wz 0 ?_
   refine sq_ev rfl (ev_load jz (dx1 hTb) ty31.h rfl) ?_
   refine sq_ev rfl (ev_load jz (dx1 hTb) ty31.h rfl) ?_
   refine sq_ev rfl (ev_len_msl sl31.h jz) ?_
   refine sq_ev rfl (ev_sub (q := (now.length : Int)) jz jz (by rw [wr (by simp <;> omega) (by simp <;> omega)]; simp)) ?_
   refine sq_ev rfl (ev_slice_msl (hi := now.length) sl31.h jz jz (by omega)) ?_
   refine sq_storeP (H0 := T (a + (dvK s form (up now) i (k)).length + (dv s (putF form i s.rules[k].to) (up (now ++ [k]))).length)) (X := locD s l (T 0).length _ G3) (j := 1) rfl (Less.eq (by rw [hTb]; rfl)) jz rfl rfl ty31.h rfl rfl ?_
   refine wz 2 ?_
   exact ⟨⟨(k + 1, .msl ((T 0).length + (3 + j)) 0 now.length cap, G3), by simp only; omega, .inr ⟨j, cap, I ((k : Nat) : Int) :: rs, rfl, by rw [hj]; simp, by simp only [List.length_cons, hrs]; omega, by omega⟩, hnx⟩, by simp only; omega, Sub.at ⟨(by exact less_int (by simp <;> omega)), jz, jz, jz, jz, jz, jz, trivial⟩ (congrArg (fun d => T d ++ locD s l (T 0).length _ _) eD)⟩
  obtain rfl : k = s.rules.length := by omega
  refine wz 1 ?_
  exact ⟨_, .raw _, rfl, rfl, true, rfl, fun h => (by cases h), fun _ => by rw [hdv]; exact ⟨hkd, av, G, hnow, rfl⟩⟩
end Go.Proofs.YtnbjaepkbabkhaaGreat
namespace Go.Proofs.YtnbjaepkbabkhaaGreat
open Go Go.Ab Br Hd
open Ni hiding fw bw lo hi can
theorem der_call {s : Sto} (gB : ParB s) {e : Env} {l m : Nat} {st : Bool} {T : Nat → List AObj} {xs : List AV} (it : ItD e l m st T xs) : ∀ (w : Nat) {form : List Int} (gF : FrmB s form) {now : List Nat} {a : Nat} {av : AV} {G : List AObj} (hw : wt s form < w) (hnl : now.length + wt s form ≤ 100000) (hnow : NowIs (T 0).length G av now) (hkm : st = true → a < m) (hseg : ∀ i y, (dv s form (up now))[i]? = some y → xs[a + i]? = some (drvA y)), ACallE e Tryz.prog 134 (ints (form) :: derC s (T 0).length) (T (a) ++ locD s l (T 0).length av G) (DerR s l m st T now (a) (dv s form (up now)))
  | 0, _, _, _, _, _, _, hw, _, _, _, _ => absurd hw (Nat.not_lt_zero _)
  | w + 1, form, gF, now, a, av, G, hw, hnl, hnow, hkm, hseg => by
    cases hfi : fstE s form with
    | none => have q := der_zero gB it gF hnl hnow hkm hseg hfi; rwa [← dv_none hfi] at q
    | some i => exact der_succ gB it gF (w := wt s form) rfl (fun {_} gF' {_ _ _ _} hw' hnl' hnow' hkm' hseg' => der_call gB it w gF' (by omega) hnl' hnow' hkm' hseg') hnl hnow hkm hseg hfi
abbrev allD (s : Sto) : List Drv := dv s [0] []
theorem wt_start {s : Sto} (B : ParB s) : wt s [0] ≤ 15625 := by
  have := B.ep
  unfold wt wtM
  simp only [List.map_cons, List.map_nil, List.sum_cons, List.sum_nil, Nat.add_zero]
  rw [if_pos (by omega)]
  exact Nat.le_trans (Nat.pow_le_pow_right (by decide) (show (s.eps - 0).toNat ≤ 6 by omega)) (by decide)
theorem ders1_call {s : Sto} (gB : ParB s) (hl10 : lng s 0 ≤ 10) {e : Env} {l m : Nat} {st : Bool} {T : Nat → List AObj} (it : ItD e l m st T ((allD s).map drvA)) : ACallE e Tryz.prog 133 [.fn (.yield l) [] [], .iptr (toC s)] (T 0) (fun y H' => y = .ret (.tup []) ∧ ∃ X, H' = T m ++ X) := by
  refine acallE_of_marks (rs := []) Tryz.func133 rfl rfl (Nat.le_of_ble_eq_true rfl) fun e0 hle he0 => ?_
  rw [nil_pre (T 0)]
  refine wz 0 ?_
  refine sq_boxP (H0 := T 0) (X := []) (a := .fn (.yield l) [] []) rfl jz rfl ?_
  refine wz 0 ?_
  refine sq_allocP (H0 := T 0) (X := [.cells [.fn (.yield l) [] []]]) rfl z31.h ?_
  refine wz 0 ?_
  refine sq_allocP (H0 := T 0) (X := [.cells [.fn (.yield l) [] []], .cells [.raw (.slice none 0 0)]]) rfl z158.h ?_
  refine wz 1 ?_
  refine sq_storeP (H0 := T 0) (j := 2) rfl jz jz rfl rfl ty158.h rfl rfl ?_
  refine sq_nil ?_
  refine aw_norm (H' := T 0 ++ locD s l (T 0).length (.raw (.slice none 0 0)) []) rfl ?_
  refine wz 0 ?_
  refine sq_ev rfl (ev_load jz (dx2 (s := s) (l := l) (a := .raw (.slice none 0 0)) (G := []) rfl) ty158.h rfl) ?_
  refine sq_ev rfl (ev_buildSlice (es := [[_]]) sf31.h rfl rfl rfl rfl) ?_
  refine sq_callE (es := e) hle rfl en134.h jz (args := ints [0] :: derC s (T 0).length) ⟨less_slx 1 [[I 0]], jz, jz, jz, jz, trivial⟩ (der_call gB it (wt s [0] + 1) (form := [0]) (now := []) (a := 0) (av := .raw (.slice none 0 0)) (G := []) (frm_start gB hl10) (Nat.lt_succ_self _) (by have := wt_start gB; simp only [List.length_nil]; omega) (.inl ⟨rfl, rfl⟩) it.pos (fun i y hi => by rw [Nat.zero_add, List.getElem?_map]; exact congrArg (Option.map drvA) hi)) ?_ (by rintro v H' ⟨_, h, _⟩; cases h)
  rintro _ H3 ⟨c, hcv, hcf, hct⟩
  cases hcv
  refine sq_nil ?_
  refine ⟨H3, .tup [], rfl, rfl, rfl, ?_⟩
  cases c with
  | false => exact (hcf rfl).2.2
  | true =>
    obtain ⟨h1, av, G, _, h5⟩ := hct rfl
    rw [Nat.zero_add] at h1 h5
    have hst : st = false := by
      cases h : st with
      | false => rfl
      | true => have h2 := h1 h; have h3 := it.hm; rw [List.length_map] at h3; exact absurd h2 (Nat.not_lt.2 h3)
    have h4 := it.all hst
    rw [List.length_map] at h4
    exact ⟨_, by rw [h4]; exact h5⟩
/-- **The derivations**, in order. -/
theorem ders_iter {s : Sto} (gB : ParB s) (hl10 : lng s 0 ≤ 10) : AIter2 Tryz.prog 133 [] [.iptr (toC s)] ((allD s).map drvA) := by
  intro m st hm h1 h2 l T e vs hT hin ok hH hs hy
  refine (ders1_call gB hl10 ⟨hT, hm, h1, h2, fun i a hi ha X => hy i a hi ha X⟩ e vs (.refl e) ok hH hs).mono ?_
  rintro y w' ⟨ax, e', rfl, ok', fr, ⟨rfl, hX⟩, u, rfl, hu⟩
  exact ⟨u, e', rfl, rfl, ok', fr, hX⟩
theorem ders_pure (s : Sto) : APure Tryz.prog 82 [.agg (toC s)] (.fn (.func 133) [] [.iptr (toC s)]) := by
  refine ap Tryz.func82 (fun e0 he0 => ?_)
  refine vz 2 ?_
  refine sq_nil ?_
  refine aw_seq ?_
  refine aw_sub (sub_iptrK [0] 1 (j := 0) (l := toC s) rfl rfl) ?_
  refine wz 2 ?_
  exact retQ_pure (v := .fn _ _ _) rfl rfl jz
end Go.Proofs.YtnbjaepkbabkhaaGreat
namespace Go.Proofs.YtnbjaepkbabkhaaGreat
open Go Go.Ab Br Hd
open Ni hiding fw bw lo hi can
instance ar168 : ArE Tryz.prog 168 10 3 1 := ⟨by kernel_rfl⟩
instance bi170 : BdI Tryz.prog 170 [.raw (.int .i64 0), .raw (.int .i64 0), .raw (.int .i64 0), .raw (.int .i64 0), .raw (.int .i64 0), .raw (.int .i64 0), .raw (.int .i64 0), .raw (.int .i64 0), .raw (.int .i64 0), .raw (.int .i64 0), .raw (.int .i64 0)] true [(0, 1), (1, 10)] 0 := ⟨by kernel_rfl⟩
instance en83 : EnT Tryz.prog 83 := ⟨Ent.of Tryz.func83 (by kernel_rfl) rfl⟩
instance fo170_1 : FoF Tryz.prog 170 1 1 168 := ⟨by kernel_rfl⟩
instance ty170 : TyF Tryz.prog 170 true 11 := ⟨by kernel_rfl⟩
instance z170 : ZeO Tryz.prog 170 [.raw (.int .i64 0), .raw (.int .i64 0), .raw (.int .i64 0), .raw (.int .i64 0), .raw (.int .i64 0), .raw (.int .i64 0), .raw (.int .i64 0), .raw (.int .i64 0), .raw (.int .i64 0), .raw (.int .i64 0), .raw (.int .i64 0)] := ⟨by kernel_rfl⟩
def namK (p : List Int) (k : Nat) : List Int := (p.length : Int) :: (p.take k ++ List.replicate (10 - k) 0)
abbrev namL (p : List Int) : List Int := namK p p.length
theorem namK_len {p : List Int} (hp : p.length ≤ 10) {k : Nat} (hk : k ≤ p.length) : (namK p k).length = 11 := by simp [namK]; omega
theorem namK_set {p : List Int} (hp : p.length ≤ 10) {k : Nat} (hk : k < p.length) :
    ((namK p k).map I).take (1 + k * 1) ++ [I p[k]] ++ ((namK p k).map I).drop (1 + k * 1 + 1) = (namK p (k + 1)).map I := by
  have e1 : (namK p k).set (1 + k) p[k] = namK p (k + 1) := by
    unfold namK
    rw [Nat.add_comm 1 k, List.set_cons_succ]
    congr 1
    rw [List.set_append_right _ _ (by simp; omega), List.length_take, Nat.min_eq_left (by omega), Nat.sub_self, List.take_succ_eq_append_getElem hk, show 10 - k = (10 - (k + 1)) + 1 by omega, List.replicate_succ, List.set_cons_zero, List.append_assoc]; rfl
  rw [← e1, Nat.mul_one, ← List.map_take, ← List.map_drop, List.set_eq_take_append_cons_drop, if_pos (by rw [namK_len hp (by omega)]; omega)]
  simp
theorem namK_zero (p : List Int) : (namK p 0).map I = [I (p.length : Int), I 0, I 0, I 0, I 0, I 0, I 0, I 0, I 0, I 0, I 0] := by simp [namK, List.replicate]
theorem nam_ble {p : List Int} (hp : p.length ≤ 10) {k : Nat} (hk : k < p.length) : Nat.ble (1 + k * 1 + 1) ((namK p k).map I).length = true := Nat.ble_eq_true_of_le (by rw [List.length_map, namK_len hp (by omega)]; omega)
@[simp] theorem inL_ints (n : Nat) (l : List Int) : AV.inL n (l.map I) = true := by
  induction l with
  | nil => rfl
  | cons a l ih => show (AV.inB n (I a) && AV.inL n (l.map I)) = true; rw [ih]; rfl
@[simp] theorem pureL_ints (l : List Int) : AV.pureL (l.map I) = true := by
  induction l with
  | nil => rfl
  | cons a l ih => show (AV.pureB (I a) && AV.pureL (l.map I)) = true; rw [ih]; rfl
def namV (p : List Int) : Value := .agg ((namL p).map (Value.int .i64)).toArray
theorem nam_less (p : List Int) : Less (.agg ((namL p).map I)) (.raw (namV p)) := less_agg_raw (by rw [List.map_map]; rfl)
def plyK (p : List Int) : Prop := p.length ≤ 10 ∧ ∀ n ∈ p, 0 ≤ n ∧ n < 1000
theorem nam_inj {p q : List Int} (hp : p.length ≤ 10) (hq : q.length ≤ 10) (h : namL p = namL q) : p = q := by
  unfold namL namK at h
  rw [List.cons.injEq, List.take_length, List.take_length] at h
  have hl : p.length = q.length := by have := h.1; omega
  exact (List.append_inj h.2 hl).1
theorem list11 {α : Type} {l : List α} (hl : l.length = 11) : ∃ a0 a1 a2 a3 a4 a5 a6 a7 a8 a9 a10, l = [a0, a1, a2, a3, a4, a5, a6, a7, a8, a9, a10] := by
  rcases l with _ | ⟨a0, l⟩
  · simp at hl
  rcases l with _ | ⟨a1, l⟩
  · simp at hl
  rcases l with _ | ⟨a2, l⟩
  · simp at hl
  rcases l with _ | ⟨a3, l⟩
  · simp at hl
  rcases l with _ | ⟨a4, l⟩
  · simp at hl
  rcases l with _ | ⟨a5, l⟩
  · simp at hl
  rcases l with _ | ⟨a6, l⟩
  · simp at hl
  rcases l with _ | ⟨a7, l⟩
  · simp at hl
  rcases l with _ | ⟨a8, l⟩
  · simp at hl
  rcases l with _ | ⟨a9, l⟩
  · simp at hl
  rcases l with _ | ⟨a10, l⟩
  · simp at hl
  obtain rfl : l = [] := List.length_eq_zero_iff.1 (by simpa using hl)
  exact ⟨a0, a1, a2, a3, a4, a5, a6, a7, a8, a9, a10, rfl⟩
theorem nam_lits {p : List Int} (h : plyK p) : (namV p).formed Tryz.prog 170 = true ∧ Tryz.prog.keyLits 5 170 (namV p).cells.toList = some ((namL p).map (Lit.int .i64)) := by
  have hl : (namL p).length = 11 := namK_len h.1 (Nat.le_refl _)
  have hb : ∀ n ∈ namL p, 0 ≤ n ∧ n < 1000 := fun n hn => by
    unfold namL namK at hn
    rcases List.mem_cons.1 hn with rfl | hn
    · have := h.1; omega
    · rcases List.mem_append.1 hn with hn | hn
      · exact h.2 n (List.mem_of_mem_take hn)
      · rw [(List.mem_replicate.1 hn).2]; omega
  unfold namV
  generalize namL p = l at hl hb
  obtain ⟨a0, a1, a2, a3, a4, a5, a6, a7, a8, a9, a10, rfl⟩ := list11 hl
  clear hl
  have wf : ∀ n, 0 ≤ n ∧ n < 1000 → (Lit.int .i64 n).wf = true := fun n hn => by
    simp [Lit.wf, IntKind.min, IntKind.max, IntKind.bits, IntKind.signed]; omega
  simp only [List.mem_cons, List.not_mem_nil, or_false, forall_eq_or_imp, forall_eq] at hb
  obtain ⟨h0, h1, h2, h3, h4, h5, h6, h7, h8, h9, h10⟩ := hb
  refine ⟨by first | rfl | kernel_rfl, ?_⟩
  have hu : Tryz.prog.underlying 170 = some (.struct (Tryz.prog.fieldsOf 170)) := by kernel_rfl
  have hi : ∀ (D : Nat) (n : Int), 0 ≤ n ∧ n < 1000 → Tryz.prog.keyLits (D + 1) 3 [Value.int .i64 n] = some [Lit.int .i64 n] := fun D n hn => by
    simp [Program.keyLits, Tryz.underlying3, wf n hn]
  have ha : Tryz.prog.keyLits 4 168 [Value.int .i64 a1, .int .i64 a2, .int .i64 a3, .int .i64 a4, .int .i64 a5, .int .i64 a6, .int .i64 a7, .int .i64 a8, .int .i64 a9, .int .i64 a10] = some [Lit.int .i64 a1, .int .i64 a2, .int .i64 a3, .int .i64 a4, .int .i64 a5, .int .i64 a6, .int .i64 a7, .int .i64 a8, .int .i64 a9, .int .i64 a10] := by
    have e1 : Tryz.prog.cellsOf 168 = 10 := by kernel_rfl
    have e3 : Tryz.prog.cellsOf 3 = 1 := by kernel_rfl
    unfold Program.keyLits
    simp only [Tryz.underlying168]
    simp [e1, e3, List.range, List.range.loop, hi, *]
  have e1 : Tryz.prog.cellsOf 170 = 11 := by kernel_rfl
  have e2 : Tryz.prog.cellsOf 168 = 10 := by kernel_rfl
  have e3 : Tryz.prog.cellsOf 3 = 1 := by kernel_rfl
  unfold Program.keyLits
  simp only [Tryz.underlying170]
  simp [e1, e2, e3, Value.cells, hi, ha, *]
theorem named_pure (p : List Int) (hp : p.length ≤ 10) : APure Tryz.prog 83 [ints p] (.agg ((namL p).map I)) := by
  refine ap (rs := [.cell 2 170]) Tryz.func83 (fun e0 he0 => ?_)
  refine wz 9 ?_
  refine aw_loopk (ι := { k : Nat // k ≤ p.length }) [2, 3, 9, 10] (fun g => [(11, I (g.1 : Nat))]) (fun H g => H.set 1 (.cells ((namK p g.1).map I))) (fun g => p.length - g.1) (⟨0, Nat.zero_le _⟩) ⟨jz, jz, jz, jz, jz, trivial⟩ (by rw [namK_zero] <;> rfl) ?_
  rintro ⟨k, hk⟩
  refine nz ?_
  refine wz 1 ?_
  refine iz (fun c_12 c_12' => ?_) (fun c_12 c_12' => ?_)
  ·have hkL : k < p.length := by omega
   refine wz 8 ?_
   refine sq_ev rfl (ev_index_box (k := k) ar168.h jz jz rfl (by omega)) ?_
   refine sq_store (j := 1) (off := 1 + k * 1) rfl jz jz rfl rfl ty3.h rfl (nam_ble hp hkL) ?_
   refine wz 2 ?_
   exact ⟨⟨k + 1, by omega⟩, by simp only; omega, sb 2 ⟨jz, jz, jz, jz, jz, trivial⟩ (hH := (congrArg (fun L => [_, AObj.cells L]) (namK_set hp hkL)))⟩
  obtain rfl : k = p.length := by omega
  have hL := namK_len hp (Nat.le_refl p.length)
  unfold namL
  generalize namK p p.length = L at hL ⊢
  obtain ⟨a0, a1, a2, a3, a4, a5, a6, a7, a8, a9, a10, rfl⟩ := list11 hL
  refine wz 2 ?_
  exact retQ_res (vs := [.agg _]) rfl rfl ⟨resVar_cell rfl rfl ty170.h rfl, trivial⟩ jz
end Go.Proofs.YtnbjaepkbabkhaaGreat
namespace Go.Proofs.YtnbjaepkbabkhaaGreat
open Go Go.Ab Br Hd
open Ni hiding fw bw lo hi can
instance en41 : EnT Tryz.prog 41 := ⟨Ent.of Tryz.func41 (by kernel_rfl) rfl⟩
instance en84 : EnT Tryz.prog 84 := ⟨Ent.of Tryz.func84 (by kernel_rfl) rfl⟩
instance fo167_1 : FoF Tryz.prog 167 1 1 31 := ⟨by kernel_rfl⟩
theorem mt162 : mapTy Tryz.prog 162 = some (170, 172) := by kernel_rfl
instance ty162 : TyF Tryz.prog 162 false 1 := ⟨by kernel_rfl⟩
instance ty35 : TyF Tryz.prog 35 false 1 := ⟨by kernel_rfl⟩
instance z162 : ZeO Tryz.prog 162 [.raw (.map none)] := ⟨by kernel_rfl⟩
instance z167 : ZeO Tryz.prog 167 [.raw (.slice none 0 0), .raw (.slice none 0 0)] := ⟨by kernel_rfl⟩
instance z35 : ZeO Tryz.prog 35 [.raw (.slice none 0 0)] := ⟨by kernel_rfl⟩
theorem less_ownb (i sz : Nat) (t : TypeId) (es : List (List AV)) : Less (.ownb i sz t es) (.sl sz es) := fun e v h => by
  have h : Rep e (.ownb i sz t es) v := h
  show Rep e (.sl sz es) v
  rw [Rep] at h
  rw [Rep]
  obtain ⟨a, len, cap, h1, h2, h3, h4, h5, h6, _⟩ := h
  exact ⟨a, len, cap, h1, h2, h3, h4, h5, h6⟩
theorem dv_ne {s : Sto} (B' : ParB s) : ∀ (d : Nat) {form rs : List Int}, wt s form ≤ d → form ≠ [] → ∀ x ∈ dv s form rs, x.2 ≠ [] := by
  intro d
  induction d using Nat.strongRecOn with
  | _ d ih =>
  intro form rs hd hne x hx
  cases e : fstE s form with
  | none =>
    rw [dv_none e] at hx
    obtain rfl := List.mem_singleton.1 hx
    simpa using hne
  | some i =>
    obtain ⟨hi, hm, _⟩ := fstE_some e
    rw [dv_some B' e] at hx
    unfold dvK at hx
    obtain ⟨n, hn, hx⟩ := List.mem_flatMap.1 hx
    have hn := List.mem_range.1 hn
    split at hx
    · rename_i ht
      have hw := wt_getD B' hi hm ht
      have e2 : s.rules.getD n ⟨0, []⟩ = s.rules[n] := Hd.getD_at hn
      rw [e2] at hw hx
      refine ih _ (by omega) (Nat.le_refl _) (fun q => ?_) x hx
      have hto := (B'.ru _ (List.getElem_mem hn)).2.1.1
      unfold putF at q
      have q2 := (List.append_eq_nil_iff.1 q).2
      have q3 := (List.append_eq_nil_iff.1 q2).1
      rw [q3] at hto; simp at hto
    · cases hx
theorem derP_ne {s : Sto} (B' : ParB s) : ∀ l ∈ derP s, l ≠ [] := fun l hl => by
  obtain ⟨x, hx, rfl⟩ := List.mem_map.1 hl
  exact dv_ne B' _ (Nat.le_refl _) (by simp) x hx
theorem key170 : KeyT Tryz.prog 170 plyK namV := keyT_of (m := 5) (D := 5) (by decide) Tryz.underlying170 (by kernel_rfl) (fun p => (namL p).map (Lit.int .i64)) (fun k h => nam_lits h) (fun k k' h h' e => nam_inj h.1 h'.1 ((List.map_inj_right fun a b q => by cases q; rfl).1 e))
def clD : AV → List AV
  | .agg l => l
  | _ => []
theorem drv_get {s : Sto} {i : Nat} {x : AV} (h : ((allD s).map drvA)[i]? = some x) : ∃ hk : i < (derP s).length, ∃ rs, x = .agg [ints rs, ints (derP s)[i]] := by
  rw [List.getElem?_map] at h
  cases hy : (allD s)[i]? with
  | none => rw [hy] at h; cases h
  | some y =>
    rw [hy] at h
    have hk := lt_of_get? hy
    refine ⟨by unfold derP; simpa using hk, y.1, ?_⟩
    rw [← Option.some.inj h]
    have e : (derP s)[i]'(by unfold derP; simpa using hk) = y.2 := by
      unfold derP
      rw [List.getElem?_eq_getElem hk] at hy
      simp [Option.some.inj hy]
    rw [e]
theorem drv_cl {s : Sto} (n : Nat) {x : AV} (h : x ∈ (allD s).map drvA) : x.cells = some (clD x) ∧ (clD x).length = 2 ∧ AV.inL n (clD x) = true := by
  obtain ⟨y, _, rfl⟩ := List.mem_map.1 h
  exact ⟨rfl, rfl, by simp [clD, AV.inL, AV.inB]⟩
theorem drv_pure {s : Sto} {x : AV} (h : x ∈ (allD s).map drvA) : x.pureB = true := by
  obtain ⟨y, _, rfl⟩ := List.mem_map.1 h; simp [AV.pureB, AV.pureL]
abbrev plT (s : Sto) (L : List (List Int)) : List AObj := [.cells (toC s), .map (kmap namV L), .cells [.mp 1], .cells [.ownb 4 1 31 (lisE L)], .tok (lisE L).length]
theorem plT_eq {s : Sto} {M M' : List (Value × Value)} {L L' : List (List AV)} {a b c d : AObj} (h1 : M = M') (h2 : L = L') : [a, AObj.map M, b, .cells [.ownb 4 1 31 L], .tok L.length, c, d] = [a, .map M', b, .cells [.ownb 4 1 31 L'], .tok L'.length, c, d] := by rw [h1, h2]
theorem inE_lis (n : Nat) (L : List (List Int)) : AV.inE n (lisE L) = true := inE_map fun x _ => by simp [AV.inL, AV.inB]
theorem once_ok {s : Sto} (B' : ParB s) (h : lng s 0 ≤ 10) {k : Nat} (hk : k ≤ (derP s).length) : ∀ x ∈ onceK (derP s) k, plyK x := fun x hx => by
  have h1 := derP_mem B' h (List.mem_of_mem_take ((onceK_mem hk x).1 hx))
  have := B'.ns
  exact ⟨h1.1, fun n hn => by have := h1.2 n hn; omega⟩
theorem plays_some {s : Sto} (gB : ParB s) (hl10 : lng s 0 ≤ 10) (hc40 : cnt s 0 ≤ 40) (hpos : 0 < (derP s).length) : APure Tryz.prog 41 [.agg (toC s)] (hds (Br.plays s)) := by
  refine apure_of_marks (rs := [.tmp 2]) Tryz.func41 rfl rfl (Nat.le_of_ble_eq_true rfl) (by simp [AV.pureL, AV.pureB, AV.pureE, pureE_map]) (by first | rfl | (simp [AV.pureL, AV.pureB, AV.pureE, pureE_map])) fun e0 he0 => ?_
  refine aw_seq ?_
  have hdl := derP_len gB
  refine wz 2 ?_
  refine sq_makeMap rfl ?_
  refine wz 4 ?_
  refine kz az (ders_pure s) ?_
  refine sq_nil ?_
  refine aw_block ?_
  refine aw_sub (sub_token_boxb 3 1 31 rfl) ?_
  refine nz ?_
  refine aw_rangeFuncQ [3, 4] (xs := (allD s).map drvA) (cl := clD) (fun k => plT s (onceK (derP s) k)) (((allD s).map drvA).length) (none) (Nat.le_refl _) (fun _ => rfl) (fun h => absurd rfl h) rfl (enters_outer rfl) dd_in jz en133.h (ders_iter gB hl10) (rfl) (fun _ => rfl) (fun k hk => by simp [objsIn, AObj.inB, AV.inB, AV.inL, inE_lis]) (fun x hx => drv_pure hx) rfl rfl (by decide) rfl rfl z167.h rfl ty167.h (fun x hx => drv_cl _ hx) (by decide) (rfl) ?_ ?_
  ·intro q i x e2 hi hx he2 hlp hce
   obtain ⟨hk2, rs, rfl⟩ := drv_get hx
   have hpm := derP_mem gB hl10 (List.getElem_mem hk2)
   have hpk : plyK (derP s)[i] := ⟨hpm.1, fun n hn => by have := hpm.2 n hn; have := gB.ns; omega⟩
   have hos := once_ok gB hl10 (Nat.le_of_lt hk2)
   have hol := onceK_len (l := derP s) (Nat.le_of_lt hk2)
   have hnp := named_pure (derP s)[i] hpm.1
   have hkl := nam_less (derP s)[i]
   obtain ⟨a0, a1, a2, a3, a4, a5, a6, a7, a8, a9, a10, hL⟩ := list11 (l := namL (derP s)[i]) (namK_len hpm.1 (Nat.le_refl _))
   rw [hL] at hnp hkl
   refine nz ?_
   refine wz 2 ?_
   refine kz az (hnp) ?_
   refine wz 4 ?_
   refine sq_ev rfl (ev_lookupK mt162 key170 z172.h jz hkl rfl hpk hos) ?_
   refine wz 8 ?_
   refine iz (fun c_23 c_23' => ?_) (fun c_23 c_23' => ?_)
   ·have hno : (derP s)[i] ∉ onceK (derP s) i := by simpa using c_23
    have eK : kmap namV (onceK (derP s) i ++ [(derP s)[i]]) = kmap namV (onceK (derP s) (i + 1)) := by rw [onceK_succ hk2, if_neg hno]
    have eS : lisE (onceK (derP s) i) ++ [[ints (derP s)[i]]] = lisE (onceK (derP s) (i + 1)) := by rw [onceK_succ hk2, if_neg hno]; exact (List.map_append (l₂ := [(derP s)[i]])).symm
    refine wz 3 ?_
    refine sq_mapUpdateK rfl mt162 key170 jz hkl less_unit rfl hpk hos hno ?_
    refine wz 3 ?_
    refine sq_ev rfl (ev_buildSlice (es := [[_]]) sf35.h rfl rfl rfl rfl) ?_
    refine sq_append_b (j := 4) rfl sf35.h Tryz.underlying35 rfl rfl (less_slx 1 [[ints (derP s)[i]]]) (by simp) (by simp; omega) (by simp; omega) ?_
    refine wz 1 ?_
    exact ⟨⟨[.cells [I a0, I a1, I a2, I a3, I a4, I a5, I a6, I a7, I a8, I a9, I a10], .cells []], plT_eq (s := s) eK eS⟩, rfl, by split <;> rfl⟩
   have hin : (derP s)[i] ∈ onceK (derP s) i := by simpa using c_23
   have eK : kmap namV (onceK (derP s) i) = kmap namV (onceK (derP s) (i + 1)) := by rw [onceK_succ hk2, if_pos hin]
   have eS : lisE (onceK (derP s) i) = lisE (onceK (derP s) (i + 1)) := by rw [onceK_succ hk2, if_pos hin]
   refine wz 0 ?_
   exact ⟨⟨[.cells [I a0, I a1, I a2, I a3, I a4, I a5, I a6, I a7, I a8, I a9, I a10], .cells []], plT_eq (s := s) eK eS⟩, rfl, by split <;> rfl⟩
  ·rintro _ rfl
   have hfull : ((allD s).map drvA).length = (derP s).length := by simp [derP]
   rw [hfull]
   refine nz ?_
   refine aw_seq ?_
   have hoc := onceK_len (l := derP s) (Nat.le_refl _)
   have hpo : 0 < (once (derP s)).length := List.length_pos_iff.2 (fun q => by have h := (onceK_mem (l := derP s) (Nat.le_refl _) (derP s)[0]).2 (by rw [List.take_length]; exact List.getElem_mem hpos); rw [show onceK (derP s) (derP s).length = [] from q] at h; cases h)
   have hon : (once (derP s)).length ≤ 1000000 := by show (onceK _ _).length ≤ _; omega
   have hok : ∀ x ∈ once (derP s), x ∈ derP s := fun x hx => by have h := (onceK_mem (l := derP s) (Nat.le_refl _) x).1 hx; rwa [List.take_length] at h
   have hlen : (Br.plays s).length = (once (derP s)).length := (plays_perm s).length_eq
   refine wz 1 ?_
   refine sq_sort_b (j := 4) (k := 3) (et := 31) (zs := once (derP s)) (ys := Br.plays s) (sl' := [(4, .ptr 3 0)]) rfl en84.h jz rfl jz (Eq.trans (b := some (.tok (lisE (once (derP s))).length)) rfl (by simp)) rfl hpo (fun q hq => derP_ne gB q (hok q hq)) hlen he0 (fun b cap w hv h1 h2 h3 h4 h5 => sort_lists (zs := once (derP s)) hpo hon (fun z hz => by have := (derP_mem gB hl10 (hok z hz)).1; omega) b cap w hv h1 h2 h3 h4 h5) ⟨⟨rfl, rfl⟩, trivial⟩ rfl ?_
   refine wz 1 ?_
   refine sq_ev rfl (ev_as (v := hds (Br.plays s)) (less_ownb _ _ _ _)) ?_
   refine wz 0 ?_
   exact retQM_pure (v := .sl _ _) rfl rfl (jz)
theorem plays_none {s : Sto} (gB : ParB s) (hl10 : lng s 0 ≤ 10) (h0 : derP s = []) : APure Tryz.prog 41 [.agg (toC s)] (hds (Br.plays s)) := by
  refine apure_of_marks (rs := [.tmp 2]) Tryz.func41 rfl rfl (Nat.le_of_ble_eq_true rfl) (by simp [AV.pureL, AV.pureB, AV.pureE, pureE_map]) (by first | rfl | (simp [AV.pureL, AV.pureB, AV.pureE, pureE_map])) fun e0 he0 => ?_
  refine wz 2 ?_
  refine sq_makeMap rfl ?_
  refine wz 4 ?_
  refine kz az (ders_pure s) ?_
  refine sq_nil ?_
  refine aw_block ?_
  refine nz ?_
  have hxs : (allD s).map drvA = [] := by have h := h0; unfold derP at h; rw [List.map_eq_nil_iff] at h; show List.map drvA (dv s [0] []) = []; rw [h]; rfl
  refine aw_rangeFuncQ [3, 4] (xs := (allD s).map drvA) (cl := clD) (fun k => [.cells (toC s), .map (kmap namV []), .cells [.mp 1], .cells [.raw (.slice none 0 0)]]) (((allD s).map drvA).length) (none) (Nat.le_refl _) (fun _ => rfl) (fun h => absurd rfl h) rfl (enters_outer rfl) dd_in jz en133.h (ders_iter gB hl10) (rfl) (fun _ => rfl) (fun k hk => by simp [objsIn, AObj.inB, AV.inB, AV.inL]) (fun x hx => drv_pure hx) rfl rfl (by decide) rfl rfl z167.h rfl ty167.h (fun x hx => drv_cl _ hx) (by decide) (rfl) ?_ ?_
  ·intro q i x e2 hi hx he2 hlp hce
   rw [hxs] at hi; exact absurd hi (Nat.not_lt_zero _)
  ·rintro _ rfl
   refine nz ?_
   refine wz 1 ?_
   refine kz az (sort_nil) ?_
   refine wz 2 ?_
   exact retQM_pure (v := .raw _) rfl rfl ((less_nil 1).trans (Less.eq (by unfold Br.plays; rw [h0, show once [] = [] from rfl, List.mergeSort_nil]; rfl)))
theorem plays_pure {s : Sto} (gB : ParB s) (hl10 : lng s 0 ≤ 10) (hc40 : cnt s 0 ≤ 40) : APure Tryz.prog 41 [.agg (toC s)] (hds (Br.plays s)) := by
  rcases Nat.eq_zero_or_pos (derP s).length with h | h
  · exact plays_none gB hl10 (List.length_eq_zero_iff.1 h)
  · exact plays_some gB hl10 hc40 h
end Go.Proofs.YtnbjaepkbabkhaaGreat
namespace Go.Proofs.YtnbjaepkbabkhaaGreat
open Go Go.Ab Br Hd
open Ni hiding fw bw lo hi can
instance bi108 : BdI Tryz.prog 108 [.raw (.int .i64 0), .raw (.int .i64 0), .raw (.int .i64 0), .raw (.bool false), .raw (.int .i64 0)] true [(0, 1), (1, 1), (2, 1), (3, 1), (4, 1)] 0 := ⟨by kernel_rfl⟩
instance bi45 : BdI Tryz.prog 45 [.raw (.int .i64 0), .raw (.int .i64 0), .raw (.int .i64 0), .raw (.int .i64 0), .raw (.int .i64 0), .raw (.int .i64 0), .raw (.int .i64 0), .raw (.slice none 0 0)] true [(0, 1), (1, 4), (5, 2), (7, 1)] 0 := ⟨by kernel_rfl⟩
instance en148 : EnT Tryz.prog 148 := ⟨Ent.of Tryz.func148 (by kernel_rfl) rfl⟩
instance en149 : EnT Tryz.prog 149 := ⟨Ent.of Tryz.func149 (by kernel_rfl) rfl⟩
instance en150 : EnT Tryz.prog 150 := ⟨Ent.of Tryz.func150 (by kernel_rfl) rfl⟩
instance en181 : EnT Tryz.prog 181 := ⟨Ent.of Tryz.func181 (by kernel_rfl) rfl⟩
instance en43 : EnT Tryz.prog 43 := ⟨Ent.of Tryz.func43 (by kernel_rfl) rfl⟩
instance en44 : EnT Tryz.prog 44 := ⟨Ent.of Tryz.func44 (by kernel_rfl) rfl⟩
instance en54 : EnT Tryz.prog 54 := ⟨Ent.of Tryz.func54 (by kernel_rfl) rfl⟩
instance en97 : EnT Tryz.prog 97 := ⟨Ent.of Tryz.func97 (by kernel_rfl) rfl⟩
instance fo101_3 : FoF Tryz.prog 101 3 3 4 := ⟨by kernel_rfl⟩
instance fo101_4 : FoF Tryz.prog 101 4 4 4 := ⟨by kernel_rfl⟩
instance fo121_0 : FoF Tryz.prog 121 0 0 25 := ⟨by kernel_rfl⟩
instance fo121_1 : FoF Tryz.prog 121 1 3 30 := ⟨by kernel_rfl⟩
instance fo121_2 : FoF Tryz.prog 121 2 10 31 := ⟨by kernel_rfl⟩
instance fo30_0 : FoF Tryz.prog 30 0 0 3 := ⟨by kernel_rfl⟩
instance fo30_1 : FoF Tryz.prog 30 1 1 28 := ⟨by kernel_rfl⟩
instance fo30_2 : FoF Tryz.prog 30 2 5 27 := ⟨by kernel_rfl⟩
instance ty121 : TyF Tryz.prog 121 true 11 := ⟨by kernel_rfl⟩
instance ty28 : TyF Tryz.prog 28 true 4 := ⟨by kernel_rfl⟩
instance ty30 : TyF Tryz.prog 30 true 7 := ⟨by kernel_rfl⟩
instance ud43 : UnD Tryz.prog 43 (.slice 108) := ⟨Tryz.underlying43⟩
instance z101 : ZeO Tryz.prog 101 [.raw (.int .i64 0), .raw (.int .i64 0), .raw (.int .i64 0), .raw (.bool false), .raw (.bool false)] := ⟨by kernel_rfl⟩
structure Evg where
  beg : Int
  s0l : Int
  s0h : Int
  s1l : Int
  s1h : Int
  dl : Int
  dh : Int
abbrev evgC (n : Evg) : List AV := [I n.beg, I n.s0l, I n.s0h, I n.s1l, I n.s1h, I n.dl, I n.dh]
abbrev evgA (n : Evg) : AV := .agg (evgC n)
def evPl (n : Evg) (l : List Ni.Sc) : Ni.Pl := ⟨n.beg, n.s0l, n.s0h, n.s1l, n.s1h, n.dl, n.dh, l⟩
def oneSc : Ni.Sc := ⟨0, 1, 1, false, -1⟩
def evgOK (n : Evg) : Bool := Ni.PlOK (evPl n [oneSc])
def scOf (x : Scb) : Ni.Sc := ⟨x.part, x.least, x.most, x.loose, -1⟩
def scsOf (s : Sto) (l : List Int) : List Ni.Sc := l.map fun k => scOf (s.scs.getD k.toNat default)
def plnOf (s : Sto) (n : Evg) (l : List Int) : Ni.Pl := evPl n (scsOf s l)
abbrev stgC (s : Sto) (n : Evg) (l : List Int) : List AV := [I s.eps, scbs s.scs, ruls s.rules, I n.beg, I n.s0l, I n.s0h, I n.s1l, I n.s1h, I n.dl, I n.dh, ints l]
abbrev stgA (s : Sto) (n : Evg) (l : List Int) : AV := .agg (stgC s n l)
def progE (p : Ni.Pl) : Int := if Ni.PlOK p = true then (if (Ni.choicesC p).isEmpty = true then 5 else 0) else 2
def progC (p : Ni.Pl) : List Nat := if Ni.PlOK p = true then (Ni.choicesC p).headD [] else []
def progL (p : Ni.Pl) : List Int := if Ni.PlOK p = true then (match Ni.choicesC p with | [] => [] | l :: _ => Ni.firstL p l) else []
theorem progAV_eq (p : Ni.Pl) : progAV p = .tup [nats (progC p), ints (progL p), I (progE p)] := by
  unfold progAV progC progL progE
  split
  · cases Ni.choicesC p <;> rfl
  · rfl
theorem prog_pure (p : Ni.Pl) (hl : p.scenes.length ≤ 1000000) : APure Tryz.prog 43 [plan p] (.tup [nats (progC p), ints (progL p), I (progE p)]) := by rw [← progAV_eq]; exact nProgramme_pure p hl
def possP (p : Ni.Pl) : Bool := Ni.PlOK p && !(Ni.choicesC p).isEmpty
theorem progE_poss (p : Ni.Pl) : decide (progE p = 0) = possP p := by
  unfold progE possP
  cases Ni.PlOK p <;> cases (Ni.choicesC p).isEmpty <;> rfl
theorem scs_at {s : Sto} {l : List Int} {k : Nat} (hk : k < l.length) (hm : 0 ≤ l[k] ∧ l[k] < s.scs.length) : (scsOf s (l.take (k + 1))).map sc = (scsOf s (l.take k)).map sc ++ [[I (s.scs[l[k].toNat]'(by omega)).part, I (s.scs[l[k].toNat]'(by omega)).least, I (s.scs[l[k].toNat]'(by omega)).most, B (s.scs[l[k].toNat]'(by omega)).loose, I (-1)]] := by
  unfold scsOf
  rw [List.take_succ_eq_append_getElem hk, List.map_append, List.map_append]
  simp only [List.map_cons, List.map_nil]
  rw [Hd.getD_at (show l[k].toNat < s.scs.length by omega)]
  rfl
theorem inE_scs (n : Nat) (l : List Ni.Sc) : AV.inE n (l.map sc) = true := inE_map fun x _ => by simp [AV.inL, AV.inB]
theorem pl_rows {a b : AObj} {c : List AV} {L L' : List (List AV)} (h : L = L') : [a, b, AObj.cells (c ++ [.own 3 5 L]), .tok L.length] = [a, b, .cells (c ++ [.own 3 5 L']), .tok L'.length] := by rw [h]
def fmlB (s : Sto) (l : List Int) (i : Nat) : Bool := (s.scs.getD i default).formula && !decide ((i : Int) ∈ l)
def fmlOK (s : Sto) (l : List Int) : Bool := (List.range s.scs.length).all fun i => !fmlB s l i
theorem check_pure (p : Ni.Pl) (hl : p.scenes.length ≤ 1000000) : APure Tryz.prog 97 [plan p] (I (if Ni.PlOK p = true then 0 else 2)) := by
  refine ap Tryz.func97 (fun e0 he0 => ?_)
  refine wz 3 ?_
  refine kz az (isplan_pure p hl) ?_
  refine wz 1 ?_
  refine iz (fun c_5 c_5' => ?_) (fun c_5 c_5' => ?_)
  ·refine wz 1 ?_
   exact rz rfl (Less.eq (by rw [if_neg (by simpa using c_5)]))
  refine wz 1 ?_
  exact rz rfl (Less.eq (by rw [if_pos (by simpa using c_5)]))
theorem isev_pure (n : Evg) : APure Tryz.prog 54 [evgA n] (B (evgOK n)) := by
  refine ap Tryz.func54 (fun e0 he0 => ?_)
  refine wz 12 ?_
  refine sq_ev rfl (ev_buildSlice (es := [[_, _, _, _, _]]) sf43.h rfl rfl rfl rfl) ?_
  refine wz 1 ?_
  refine sq_ev rfl (ev_call en97.h jz (check_pure (evPl n [oneSc]) (by simp [evPl])) ⟨less_agg ⟨jz, jz, jz, jz, jz, jz, jz, less_slx 5 [sc oneSc], trivial⟩, trivial⟩) ?_
  refine wz 2 ?_
  exact rz rfl (Less.eq (congrArg B (by unfold evgOK; cases Ni.PlOK (evPl n [oneSc]) <;> rfl)))
theorem splan_pure (s : Sto) (n : Evg) (l : List Int) (hl : l.length ≤ 10) (hm : ∀ x ∈ l, 0 ≤ x ∧ x < s.scs.length) : APure Tryz.prog 44 [stgA s n l] (plan (plnOf s n l)) := by
  refine ap (rs := [.cell 2 45]) Tryz.func44 (fun e0 he0 => ?_)
  refine vz 18 ?_
  refine sq_nil ?_
  refine aw_block ?_
  refine aw_sub (sub_token_cell 2 5 [I n.beg, I n.s0l, I n.s0h, I n.s1l, I n.s1h, I n.dl, I n.dh] [] rfl) ?_
  refine nz ?_
  refine aw_loopk (ι := { k : Nat // k ≤ l.length }) [1, 2, 3, 18, 19] (fun g => [(20, I (g.1 : Nat))]) (fun H g => [.cells (stgC s n l), .cells [I 0, I 0, I 0, I 0, I 0, I 0, I 0, .raw (.slice none 0 0)], .cells ([I n.beg, I n.s0l, I n.s0h, I n.s1l, I n.s1h, I n.dl, I n.dh] ++ [.own 3 5 ((scsOf s (l.take g.1)).map sc)]), .tok ((scsOf s (l.take g.1)).map sc).length]) (fun g => l.length - g.1) (⟨0, Nat.zero_le _⟩) ⟨jz, jz, jz, jz, jz, jz, trivial⟩ rfl ?_
  rintro ⟨k, hk⟩
  refine nz ?_
  have hsl : (scsOf s (l.take k)).length ≤ 10 := by unfold scsOf; rw [List.length_map, List.length_take]; omega
  refine wz 1 ?_
  refine iz (fun c_21 c_21' => ?_) (fun c_21 c_21' => ?_)
  ·have hkL : k < l.length := by omega
   have hmk := hm _ (List.getElem_mem hkL)
   have eS := scs_at hkL hmk
   refine wz 7 ?_
   refine sq_ev rfl (ev_index_map (k := l[k].toNat) (xs := s.scs) sl22.h jz jz (by omega) (by omega)) ?_
   refine wz 14 ?_
   refine sq_ev rfl (ev_buildSlice (es := [[_, _, _, _, _]]) sf43.h rfl rfl rfl rfl) ?_
   first | refine sq_append rfl sf43.h Tryz.underlying43 rfl rfl jz (Nat.succ_pos _) (by simp; omega) (by simp; omega) ?_ | refine sq_append rfl sf43.h Tryz.underlying43 rfl rfl (less_slx _ _) (Nat.succ_pos _) (by simp; omega) (by simp; omega) ?_
   refine wz 4 ?_
   exact ⟨⟨k + 1, by omega⟩, by simp only; omega, sb 4 ⟨jz, jz, jz, jz, jz, jz, trivial⟩ (hH := (pl_rows (c := [I n.beg, I n.s0l, I n.s0h, I n.s1l, I n.s1h, I n.dl, I n.dh]) eS.symm)) (h2 := (by simp [objsIn, AObj.inB, AV.inB, AV.inL, inE_scs]))⟩
  obtain rfl : k = l.length := by omega
  refine wz 2 ?_
  exact retQ_res (vs := [.agg _]) rfl rfl ⟨resVar_cell rfl rfl ty45.h rfl, trivial⟩ (less_agg ⟨jz, jz, jz, jz, jz, jz, jz, (less_own _ _ _).trans (Less.eq (by rw [List.take_length] <;> rfl)), trivial⟩)
theorem fml_pure (s : Sto) (n : Evg) (l : List Int) (hs : s.scs.length ≤ 1000000) (hl : l.length ≤ 1000000) : APure Tryz.prog 148 [stgA s n l] (B (fmlOK s l)) := by
  refine ap Tryz.func148 (fun e0 he0 => ?_)
  refine wz 7 ?_
  refine aw_loopk (ι := { k : Nat // k ≤ s.scs.length ∧ ∀ i, i < k → fmlB s l i = false }) [1, 7, 8] (fun g => [(9, I (g.1 : Nat))]) (fun H g => H) (fun g => s.scs.length - g.1) (⟨0, Nat.zero_le _, by omega⟩) ⟨jz, jz, jz, jz, trivial⟩ rfl ?_
  rintro ⟨k, hk, hok⟩
  refine nz ?_
  refine wz 1 ?_
  refine iz (fun c_10 c_10' => ?_) (fun c_10 c_10' => ?_)
  ·have hkL : k < s.scs.length := by omega
   have eF : fmlB s l k = (s.scs[k].formula && !decide ((k : Int) ∈ l)) := by unfold fmlB; rw [Hd.getD_at hkL]
   refine wz 9 ?_
   refine sz 16 (fun g4_2 g4_2' => ?_) (fun g4_2 g4_2' => ?_)
   ·refine wz 3 ?_
    refine ky az (ncontains_pure l _ hl) ?_
    refine wz 2 ?_
    refine iz (fun c_22 c_22' => ?_) (fun c_22 c_22' => ?_)
    ·have hbad : fmlB s l k = true := by rw [eF]; simp_all
     have hno : fmlOK s l = false := List.all_eq_false.2 ⟨k, List.mem_range.2 hkL, by rw [hbad]; simp⟩
     refine wz 1 ?_
     exact rz rfl (Less.eq (by rw [hno]))
    have hin : fmlB s l k = false := by rw [eF]; simp_all
    refine wz 2 ?_
    exact ⟨⟨k + 1, by omega, fun i q => (by by_cases e : i = k; (subst e; exact hin); exact hok i (by omega))⟩, by simp only; omega, sb 1 ⟨jz, jz, jz, jz, trivial⟩⟩
   have hin : fmlB s l k = false := by rw [eF]; simp_all
   refine wz 9 ?_
   exact ⟨⟨k + 1, by omega, fun i q => (by by_cases e : i = k; (subst e; exact hin); exact hok i (by omega))⟩, by simp only; omega, sb 1 ⟨jz, jz, jz, jz, trivial⟩⟩
  obtain rfl : k = s.scs.length := by omega
  have hall : fmlOK s l = true := List.all_eq_true.2 fun i hi => by rw [hok i (List.mem_range.1 hi)]; rfl
  refine wz 1 ?_
  exact rz rfl (Less.eq (by rw [hall]))
theorem order_pure (s : Sto) (n : Evg) (l : List Int) (hl : l.length ≤ 10) (hm : ∀ x ∈ l, 0 ≤ x ∧ x < s.scs.length) : APure Tryz.prog 149 [stgA s n l] (B (Ni.PlOK (plnOf s n l))) := by
  refine ap Tryz.func149 (fun e0 he0 => ?_)
  refine wz 3 ?_
  refine kz az (splan_pure s n l hl hm) ?_
  refine kz az (check_pure (plnOf s n l) (by show (scsOf s l).length ≤ _; unfold scsOf; rw [List.length_map]; omega)) ?_
  refine wz 2 ?_
  exact rz rfl (Less.eq (congrArg B (by cases Ni.PlOK (plnOf s n l) <;> rfl)))
theorem poss_pure (s : Sto) (n : Evg) (l : List Int) (hl : l.length ≤ 10) (hm : ∀ x ∈ l, 0 ≤ x ∧ x < s.scs.length) : APure Tryz.prog 150 [stgA s n l] (B (possP (plnOf s n l))) := by
  refine ap Tryz.func150 (fun e0 he0 => ?_)
  refine wz 3 ?_
  refine kz az (splan_pure s n l hl hm) ?_
  refine kz az (prog_pure (plnOf s n l) (by show (scsOf s l).length ≤ _; unfold scsOf; rw [List.length_map]; omega)) ?_
  refine wz 10 ?_
  exact rz rfl (Less.eq (congrArg B (progE_poss _)))
end Go.Proofs.YtnbjaepkbabkhaaGreat
namespace Go.Proofs.YtnbjaepkbabkhaaGreat
open Go Go.Ab Br Hd
open Ni hiding fw bw lo hi can
instance ar233 : ArE Tryz.prog 233 3 34 1 := ⟨by kernel_rfl⟩
instance bi230 : BdI Tryz.prog 230 [.raw (.int .i64 0)] true [(0, 1)] 0 := ⟨by kernel_rfl⟩
instance bi233 : BdI Tryz.prog 233 [.raw .nilFunc, .raw .nilFunc, .raw .nilFunc] false [] 1 := ⟨by kernel_rfl⟩
instance en147 : EnT Tryz.prog 147 := ⟨Ent.of Tryz.func147 (by kernel_rfl) rfl⟩
instance en55 : EnT Tryz.prog 55 := ⟨Ent.of Tryz.func55 (by kernel_rfl) rfl⟩
instance en98 : EnT Tryz.prog 98 := ⟨Ent.of Tryz.func98 (by kernel_rfl) rfl⟩
instance en99 : EnT Tryz.prog 99 := ⟨Ent.of Tryz.func99 (by kernel_rfl) rfl⟩
instance fo230_0 : FoF Tryz.prog 230 0 0 55 := ⟨by kernel_rfl⟩
instance ni230 : NiF Tryz.prog 230 := ⟨by kernel_rfl⟩
instance ni232 : NiF Tryz.prog 232 := ⟨by kernel_rfl⟩
instance ty230 : TyF Tryz.prog 230 true 1 := ⟨by kernel_rfl⟩
instance ty232 : TyF Tryz.prog 232 true 1 := ⟨by kernel_rfl⟩
instance ty233 : TyF Tryz.prog 233 true 3 := ⟨by kernel_rfl⟩
instance ty34 : TyF Tryz.prog 34 false 1 := ⟨by kernel_rfl⟩
instance ty55 : TyF Tryz.prog 55 false 1 := ⟨by kernel_rfl⟩
instance z230 : ZeO Tryz.prog 230 [.raw (.int .i64 0)] := ⟨by kernel_rfl⟩
instance z232 : ZeO Tryz.prog 232 [.raw (.string ByteArray.empty)] := ⟨by kernel_rfl⟩
instance z233 : ZeO Tryz.prog 233 [.raw .nilFunc, .raw .nilFunc, .raw .nilFunc] := ⟨by kernel_rfl⟩
instance z55 : ZeO Tryz.prog 55 [.raw (.int .i64 0)] := ⟨by kernel_rfl⟩
def vdc (s : Sto) (n : Evg) (l : List Int) : Int := if fmlOK s l = true then (if Ni.PlOK (plnOf s n l) = true then (if possP (plnOf s n l) = true then 4 else 3) else 2) else 1
def jF : Nat → FuncId
  | 0 => 148
  | 1 => 149
  | _ => 150
def jV (s : Sto) (n : Evg) (l : List Int) : Nat → Bool
  | 0 => fmlOK s l
  | 1 => Ni.PlOK (plnOf s n l)
  | _ => possP (plnOf s n l)
theorem jF_ent : ∀ k, Ent Tryz.prog (jF k)
  | 0 => en148.h
  | 1 => en149.h
  | _ + 2 => en150.h
theorem jF_pure (s : Sto) (n : Evg) (l : List Int) (hs : s.scs.length ≤ 1000000) (hl : l.length ≤ 10) (hm : ∀ x ∈ l, 0 ≤ x ∧ x < s.scs.length) : ∀ k, APure Tryz.prog (jF k) [stgA s n l] (B (jV s n l k))
  | 0 => fml_pure s n l hs (by omega)
  | 1 => order_pure s n l hl hm
  | _ + 2 => poss_pure s n l hl hm
theorem j_at (s : Sto) (n : Evg) (l : List Int) : ∀ {k : Nat}, k < 3 → ([AV.fn (.func 148) [stgA s n l] [], .fn (.func 149) [stgA s n l] [], .fn (.func 150) [stgA s n l] []] : List AV)[k * 1]? = some (.fn (.func (jF k)) [stgA s n l] [])
  | 0, _ => rfl
  | 1, _ => rfl
  | 2, _ => rfl
theorem vdc_no {s : Sto} {n : Evg} {l : List Int} {k : Nat} (hk : k < 3) (h : ∀ j, j < k → jV s n l j = true) (hf : jV s n l k = false) : vdc s n l = 1 + (k : Int) ∧ vdc s n l ≠ 4 := by
  unfold vdc
  match k, hk with
  | 0, _ => simp only [jV] at hf; rw [hf]; simp
  | 1, _ => have h0 := h 0 (by omega); simp only [jV] at hf h0; rw [h0, hf]; simp
  | 2, _ => have h0 := h 0 (by omega); have h1 := h 1 (by omega); simp only [jV] at hf h0 h1; rw [h0, h1, hf]; simp
theorem vdc_yes {s : Sto} {n : Evg} {l : List Int} (h : ∀ j, j < 3 → jV s n l j = true) : vdc s n l = 4 := by
  have h0 := h 0 (by omega); have h1 := h 1 (by omega); have h2 := h 2 (by omega)
  simp only [jV] at h0 h1 h2
  unfold vdc; rw [h0, h1, h2]; rfl
def judR (s : Sto) (n : Evg) (l : List Int) : ARes → Prop := fun x => (vdc s n l = 4 ∧ x = .ret (.tup [])) ∨ (vdc s n l ≠ 4 ∧ x = .pan (.ifc 230 (.agg [I (vdc s n l)])))
theorem vdefer_none (i j : Nat) (H : List AObj) : ADefer Tryz.prog 147 [.ptr i 0, .ptr j 0] H none (fun H' => H' = H) := by
  refine adefer_of Tryz.func147 rfl rfl (Nat.le_of_ble_eq_true rfl) rfl fun e0 he0 => ?_
  refine aw_block ?_
  refine aw_seq ?_
  refine aw_region (sq_ev rfl (ev_nil_nil un20 (Less.rfl' _) (Less.rfl' _)) ?_)
  refine sq_nil ?_
  refine aw_true (Less.rfl' _) ?_
  refine aw_region (sq_ev rfl (ev_as (v := .raw _) (Less.rfl' _)) ?_)
  refine sq_nil ?_
  exact ⟨.inl rfl, rfl, rfl⟩
theorem vdefer_judged (i j : Nat) (H : List AObj) (k : Int) {a : AV} (hi : H[i]? = some (.cells [a])) :
    ADefer Tryz.prog 147 [.ptr i 0, .ptr j 0] H (some (.ifc 230 (.agg [I k]))) (fun H' => ∃ X, H' = H.set i (.cells [I k]) ++ X) := by
  refine adefer_of Tryz.func147 rfl rfl (Nat.le_of_ble_eq_true rfl) rfl fun e0 he0 => ?_
  rw [nil_pre H]
  refine aw_block ?_
  refine aw_seq ?_
  refine aw_region (sq_ev rfl (ev_ifc_eqnil un20 (Less.rfl' _) (Less.rfl' _)) ?_)
  refine sq_nil ?_
  refine aw_false (Less.rfl' _) ?_
  refine aw_seq ?_
  refine aw_region (sq_ev rfl (ev_assert_yes ni230.h (Less.rfl' _)) ?_)
  refine sq_ev rfl (ev_extract (Less.rfl' _) rfl) ?_
  refine sq_ev rfl (ev_extract (Less.rfl' _) rfl) ?_
  refine sq_nil ?_
  refine aw_true (Less.rfl' _) ?_
  refine aw_seq ?_
  refine aw_region ?_
  refine sq_allocP (H0 := H) (X := []) rfl z230.h ?_
  refine sq_storeP (H0 := H) (j := 0) rfl (Less.rfl' _) (Less.rfl' _) rfl rfl ty230.h rfl rfl ?_
  refine sq_nil ?_
  refine aw_region (sq_ev rfl (ev_fieldAddr fo230_0.h (Less.rfl' _)) ?_)
  refine sq_ev rfl (ev_load (Less.rfl' _) (lookP (H0 := H) (m := 0) rfl) ty55.h rfl) ?_
  refine sq_storeL (H0 := H) rfl (Less.rfl' _) (Less.rfl' _) rfl hi ty55.h rfl rfl ?_
  refine sq_nil ?_
  exact ⟨.inl rfl, rfl, [.cells [I k]], by simp only [List.append_nil]; rfl⟩
inductive GaveV : ARes → AV → Prop
  | ret (v : AV) : GaveV (.ret v) (.tup [I 4, I 0])
  | jud (k : Int) : GaveV (.pan (.ifc 230 (.agg [I k]))) (.tup [I k, I 0])
theorem vattempt_call {f : FuncId} {first : List AV} {H : List AObj} {Rd : ARes → List AObj → Prop} (he : Ent Tryz.prog f)
    (hdo : ACall Tryz.prog f first (H ++ [.cells [I 0], .cells [I 0]]) fun x H' => ∃ H1 X, H' = H1 ++ ([.cells [I 0], .cells [I 0]] ++ X) ∧ H1.length = H.length ∧ Rd x H1 ∧ ∃ v, GaveV x v) :
    ACall Tryz.prog 98 [.fn (.func f) first []] H fun x H' => ∃ y v H1 X, x = .ret v ∧ GaveV y v ∧ Rd y H1 ∧ H' = H1 ++ X := by
  refine acall_of_defer (rs := [.cell 2 55, .cell 3 36]) Tryz.func98 rfl rfl (Nat.le_of_ble_eq_true rfl) en147.h fun e0 he0 => ?_
  rw [nil_pre H] at he0 ⊢
  refine aw_seq ?_
  refine aw_region ?_
  refine sq_allocP (H0 := H) (X := []) rfl z55.h ?_
  refine sq_allocP (H0 := H) rfl z36.h ?_
  refine sq_nil ?_
  refine aw_seq ?_
  refine aw_region (sq_ev rfl ev_makeFunc ?_)
  refine sq_defer rfl rfl (Less.rfl' _) ?_
  refine sq_nil ?_
  refine aw_seq ?_
  refine aw_region (sq_ev rfl (ev_mv (v := .fn _ _ _) (Less.rfl' _)) ?_)
  refine sq_call (f := f) (first := first) (cap := []) (args := first) rfl he (Less.rfl' _) (by simpa using LessL.rfl' first) hdo ?_ ?_
  · rintro v _ ⟨H1, X, rfl, hl, hRd, hg⟩
    refine sq_nil ?_
    refine aw_seq ?_
    refine aw_region ?_
    refine sq_storeP (H0 := H1) (j := 0) rfl (Less.eq (by rw [hl]; rfl)) (Less.rfl' _) rfl rfl ty55.h rfl rfl ?_
    refine sq_storeP (H0 := H1) (j := 1) rfl (Less.eq (by rw [hl]; rfl)) (Less.rfl' _) rfl rfl ty36.h rfl rfl ?_
    refine sq_nil (aw_ret ?_)
    refine ⟨_, _, rfl, vdefer_none _ _ _, ?_⟩
    rintro _ rfl
    refine ⟨.tup [I 4, I 0], ?_, _, _, H1, _, rfl, GaveV.ret v, hRd, rfl⟩
    refine resAV_of (vs := [I 4, I 0]) (Nat.le_of_ble_eq_true rfl) ?_
    refine ⟨resVar_cell1 (i := H1.length + 0) (off := 0) ?_ (lookP (H0 := H1) rfl) ty55.h rfl, resVar_cell1 (i := H1.length + 1) (off := 0) ?_ (lookP (H0 := H1) rfl) ty36.h rfl, trivial⟩
    · rw [hl]; rfl
    · rw [hl]; rfl
  · rintro v _ ⟨H1, X, rfl, hl, hRd, u, hg⟩
    have hi : (H1 ++ ([AObj.cells [I 0], .cells [I 0]] ++ X))[H.length + 0]? = some (.cells [I 0]) := by rw [← hl]; exact lookP (by rfl)
    cases hg with
    | jud k =>
      refine ⟨_, _, rfl, vdefer_judged (H.length + 0) (H.length + 1) _ k hi, ?_⟩
      rintro _ ⟨Y, rfl⟩
      have e1 : (H1 ++ ([AObj.cells [I 0], .cells [I 0]] ++ X)).set (H.length + 0) (.cells [I k]) ++ Y = H1 ++ ([.cells [I k], .cells [I 0]] ++ (X ++ Y)) := by
        rw [← hl, setP]; simp
      rw [e1]
      refine ⟨.tup [I k, I 0], ?_, _, _, H1, _, rfl, GaveV.jud k, hRd, rfl⟩
      refine resAV_of (vs := [I k, I 0]) (Nat.le_of_ble_eq_true rfl) ?_
      refine ⟨resVar_cell1 (i := H1.length + 0) (off := 0) ?_ (lookP (H0 := H1) rfl) ty55.h rfl, resVar_cell1 (i := H1.length + 1) (off := 0) ?_ (lookP (H0 := H1) rfl) ty36.h rfl, trivial⟩
      · rw [hl]; rfl
      · rw [hl]; rfl
theorem judge_pan (s : Sto) (n : Evg) (l : List Int) (hs : s.scs.length ≤ 1000000) (hl : l.length ≤ 10) (hm : ∀ x ∈ l, 0 ≤ x ∧ x < s.scs.length) : APan Tryz.prog 99 [stgA s n l] (judR s n l) := by
  refine APan.of_acall (by simp [AV.pureL, AV.pureB, AV.pureE, pureE_map]) (acall_of (rs := []) Tryz.func99 rfl rfl (Nat.le_of_ble_eq_true rfl) fun e0 he0 => ?_)
  refine wz 12 ?_
  refine aw_loopk (ι := { k : Nat // k ≤ 3 ∧ ∀ j, j < k → jV s n l j = true }) [12] (fun g => [(13, I (g.1 : Nat))]) (fun H g => H) (fun g => 3 - g.1) (⟨0, by omega, by omega⟩) ⟨jz, jz, trivial⟩ rfl ?_
  rintro ⟨k, hk, hno⟩
  refine nz ?_
  refine wz 1 ?_
  refine iz (fun c_14 c_14' => ?_) (fun c_14 c_14' => ?_)
  ·have hk3 : k < 3 := by omega
   refine wz 1 ?_
   refine sq_ev rfl (ev_indexv (k := k) (v := .fn (.func (jF k)) [stgA s n l] []) ar233.h ty34.h jz jz rfl (by omega) (j_at s n l hk3)) ?_
   refine wz 3 ?_
   refine sq_ev rfl (ev_call (jF_ent k) jz (jF_pure s n l hs hl hm k) ⟨jz, trivial⟩) ?_
   refine wz 1 ?_
   refine iz (fun c_19 c_19' => ?_) (fun c_19 c_19' => ?_)
   ·have hno2 : jV s n l k = false := by simpa using c_19
    obtain ⟨hv1, hv2⟩ := vdc_no hk3 hno hno2
    refine wz 4 ?_
    refine sq_panic jz ?_
    exact ⟨rfl, .pan (.ifc 230 (.agg [I (vdc s n l)])), .inr ⟨hv2, rfl⟩, rfl, Less.eq (by rw [hv1] <;> rfl)⟩
   have hyes : jV s n l k = true := by simpa using c_19
   refine wz 2 ?_
   exact ⟨⟨k + 1, by omega, fun j hj => (by by_cases e : j = k; (subst e; exact hyes); exact hno j (by omega))⟩, by simp only; omega, Sub.slots ⟨jz, jz, trivial⟩⟩
  obtain rfl : k = 3 := by omega
  refine wz 0 ?_
  exact ⟨rfl, .tup [], rfl, .ret (.tup []), .inl ⟨vdc_yes hno, rfl⟩, rfl, jz⟩
theorem vatt_call (s : Sto) (n : Evg) (l : List Int) (hs : s.scs.length ≤ 1000000) (hl : l.length ≤ 10) (hm : ∀ x ∈ l, 0 ≤ x ∧ x < s.scs.length) {H : List AObj} (hin : objsIn H.length H = true) :
    ACall Tryz.prog 98 [.fn (.func 99) [stgA s n l] []] H fun x H' => H' = H ∧ x = .ret (.tup [I (vdc s n l), I 0]) := by
  refine ACall.drop (R := fun x => x = .ret (.tup [I (vdc s n l), I 0])) ?_ (Nat.le_refl _) hin (fun x hx => by subst hx; rfl)
  refine (vattempt_call (Rd := fun x H1 => H1 = H ∧ judR s n l x) en99.h ((judge_pan s n l hs hl hm (H ++ [.cells [I 0], .cells [I 0]])).mono ?_)).mono ?_
  · rintro x _ ⟨rfl, h⟩
    refine ⟨H, [], by simp, rfl, ⟨rfl, h⟩, ?_⟩
    rcases h with ⟨_, rfl⟩ | ⟨_, rfl⟩
    · exact ⟨_, GaveV.ret _⟩
    · exact ⟨_, GaveV.jud _⟩
  · rintro x H' ⟨y, v, H1, X, rfl, hg, ⟨rfl, hR⟩, rfl⟩
    refine ⟨⟨X, rfl⟩, ?_⟩
    rcases hR with ⟨hf, rfl⟩ | ⟨hf, rfl⟩
    · cases hg; rw [hf]
    · cases hg; rfl
theorem verdict_pure (s : Sto) (n : Evg) (l : List Int) (hs : s.scs.length ≤ 1000000) (hl : l.length ≤ 10) (hm : ∀ x ∈ l, 0 ≤ x ∧ x < s.scs.length) : APure Tryz.prog 55 [stgA s n l] (I (vdc s n l)) := by
  refine ap Tryz.func55 (fun e0 he0 => ?_)
  refine wz 4 ?_
  refine sq_call (args := [.fn (.func 99) [stgA s n l] []]) rfl en98.h jz ⟨jz, trivial⟩ (vatt_call s n l hs hl hm (H := [.cells (stgC s n l)]) (by simp [objsIn, AObj.inB, AV.inB, AV.inL])) ?_ (by rintro v H' ⟨_, h⟩; cases h)
  rintro _ _ ⟨rfl, h⟩; cases h
  refine wz 7 ?_
  exact rz rfl jz
end Go.Proofs.YtnbjaepkbabkhaaGreat
