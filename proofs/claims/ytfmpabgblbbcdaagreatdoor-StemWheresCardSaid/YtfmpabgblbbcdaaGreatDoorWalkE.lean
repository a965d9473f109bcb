/-
  A part of the proof: conditions: none beyond each theorem's own.
-/
import Derived.Test.YtfmpabgblbbcdaaGreatDoorWalkD
import Derived.Test.YtfmpabgblbbcdaaGreatDoorLogicC
import Derived.Test.YtfmpabgblbbcdaaGreatDoorLogicE
import Derived.Test.YtfmpabgblbbcdaaGreatDoorSpecA
import Derived.Test.YtfmpabgblbbcdaaGreatDoorLogicD
import Derived.KernelRfl
import Derived.Lib.LaidTab
import Derived.Lib.ItoaNum
set_option linter.all false
set_option maxRecDepth 100000
set_option maxHeartbeats 8000000
namespace Go.Proofs.YtfmpabgblbbcdaaGreatDoor
open Go Go.Ab Ni St
open Hd hiding sz
instance en92 : EnT Tryz.prog 92 := ⟨Ent.of Tryz.func92 (by kernel_rfl) rfl⟩
instance ty119 : TyF Tryz.prog 119 false 1 := ⟨by kernel_rfl⟩
instance z119 : ZeO Tryz.prog 119 [.raw .nilFunc] := ⟨by kernel_rfl⟩
theorem rising_cut {l : List Int} {n : Nat} (F : List Int) (h : rising l n = true) : rising (cutN F l) n = true := by
  obtain ⟨h1, h2⟩ := rising_iff.1 h
  exact rising_iff.2 ⟨h1.sublist List.filter_sublist, fun x hx => h2 x (List.mem_filter.1 hx).1⟩
theorem outP_B {p : Ply} (B : PlB p) (F : List Int) : PlB (outP p F) where
  nh := B.nh
  lf := B.lf
  nf := B.nf
  ns := by show 1 ≤ (p.scs.map _).length ∧ (p.scs.map _).length ≤ 5; rw [List.length_map]; exact B.ns
  ht := B.ht
  fg := B.fg
  sc := fun y hy => by
    obtain ⟨x, hx, rfl⟩ := List.mem_map.1 (show y ∈ p.scs.map _ from hy)
    have X := B.sc x hx
    exact ⟨rising_cut F X.mv, rising_cut F X.rs, X.tk, Nat.le_trans (List.length_filter_le _ _) X.r4, X.kn⟩
def okF (p : Ply) (F : List Int) : Bool := plays0 (outP p F)
def NowI (G : List AObj) (a : AV) (now : List Int) : Prop :=
  (a = .raw (.slice none 0 0) ∧ now = []) ∨ ∃ j cap rs, a = .msl (3 + j) 0 now.length cap ∧ G[j]? = some (.cells ((now.map fun x => [I x]).flatten ++ rs)) ∧ rs.length = (cap - now.length) * 1 ∧ now.length ≤ cap
abbrev fnV (p : Ply) : AV := .fn (.func 92) [] [.iptr (plC p), .ptr 1 0, .ptr 2 0]
abbrev plH (p : Ply) (a : AV) (G : List AObj) : List AObj := [.dead, .cells [a], .cells [fnV p]] ++ G
theorem now_cells {G : List AObj} {a : AV} {now : List Int} (h : NowI G a now) : a.cells = some [a] := by
  rcases h with ⟨rfl, _⟩ | ⟨_, _, _, rfl, _⟩ <;> rfl
theorem now_obj {p : Ply} {b : AV} {G : List AObj} {now : List Int} {j : Nat} {rs : List AV} (h : G[j]? = some (.cells ((now.map fun x => [I x]).flatten ++ rs))) :
    (plH p b G)[3 + j]? = some (.cells ((now.map fun x => [I x]).flatten ++ rs)) := by
  rw [List.getElem?_append_right (by simp)]; simpa using h
theorem now_app {G X : List AObj} {a : AV} {now : List Int} (h : NowI G a now) : NowI (G ++ X) a now := by
  rcases h with h | ⟨j, cap, rs, h1, h2, h3⟩
  · exact .inl h
  · exact .inr ⟨j, cap, rs, h1, by rw [List.getElem?_append_left (lt_of_get? h2)]; exact h2, h3⟩
theorem sz1 (now : List Int) : ∀ q ∈ now.map (fun x => [I x]), q.length = 1 := fun q hq => by obtain ⟨x, _, rfl⟩ := List.mem_map.1 hq; rfl
theorem lack_raw (a b c : Int) : Less (.tup [.agg [I a, I b], I c]) (.tup [.raw (.agg #[.int .i64 a, .int .i64 b]), I c]) := fun e v h => by
  rw [Rep] at h
  rw [Rep]
  obtain ⟨cs, rfl, h⟩ := h
  refine ⟨cs, rfl, ?_⟩
  rw [RepL] at h
  obtain ⟨v1, r1, hv1, h1, h2⟩ := h
  rw [hv1]
  refine RepL.cons ?_ h2
  rw [Rep] at h1
  obtain ⟨ds, rfl, h3, _⟩ := h1
  rw [Rep]
  rw [RepL] at h3
  obtain ⟨w1, q1, e1, g1, h3⟩ := h3
  rw [RepL] at h3
  obtain ⟨w2, q2, e2, g2, h3⟩ := h3
  rw [RepL] at h3
  rw [Rep] at g1
  rw [Rep] at g2
  subst h3; subst e2; subst g1; subst g2
  exact congrArg Value.agg (Array.ext' (by simpa using e1))
theorem raw_lack (a b c : Int) : Less (.tup [.raw (.agg #[.int .i64 a, .int .i64 b]), I c]) (.tup [.agg [I a, I b], I c]) := fun e v h => by
  rw [Rep] at h
  rw [Rep]
  obtain ⟨cs, rfl, h⟩ := h
  refine ⟨cs, rfl, ?_⟩
  rw [RepL] at h
  obtain ⟨v1, r1, hv1, h1, h2⟩ := h
  rw [hv1]
  refine RepL.cons ?_ h2
  rw [Rep] at h1
  subst h1
  rw [Rep]
  refine ⟨_, rfl, RepL.cons (by rw [Rep]) (RepL.cons (by rw [Rep]) RepL.nil), fun c hc => ?_⟩
  simp at hc
  rcases hc with rfl | rfl <;> rfl
section app
variable {c : Ctx} {ops : Array Oper} {Q : AExit → St → Prop} {rest : List Oper} {i : Nat} {sl : List (Nat × AV)} {df : List ADef}
variable {d : Option Tmp} {t : TypeId} {pp : String} {af : Array Edge}
theorem sq_tell {p : Ply} (gP : PlB p) {a b : AV} {G : List AObj} {now : List Int} {d1 d2 : Nat} {t1 t2 : TypeId} {p1 p2 : String} {af1 af2 : Array Edge} {x y : Operand} {ats1 ats2 : Array TypeId} (hP : c.P = Tryz.prog) (hl : now.length ≤ 1000) (h : NowI G a now)
    (hd1 : dOK c.nt (some d1) = true) (hd2 : dOK c.nt (some d2) = true) (hn1 : d1 < c.nt)
    (hx : Less ((⟨sl, plH p b G, df⟩ : St).op x) (plA p)) (hy : Less ((⟨sl, plH p b G, df⟩ : St).op y) a)
    (k : ∀ v1 (fa fb : Int), SeqWP c ops Q (i + 1 + 1) rest ((St.put ⟨sl, plH p b G, df⟩ (some d1) v1).put (some d2) (.tup [.agg [I fa, I fb], I (if okF p now = true then 0 else 7)]))) :
    SeqWP c ops Q i (⟨some d1, .call ⟨.value (.func 93), #[x, y], ats1⟩, t1, p1, af1, none⟩ :: ⟨some d2, .call ⟨.value (.func 76), #[.tmp d1], ats2⟩, t2, p2, af2, none⟩ :: rest) ⟨sl, plH p b G, df⟩ := by
  obtain ⟨fa, fb, hf⟩ := fails_any (outP_B gP now)
  have hns := gP.ns
  have hw := without_pure (p := p) (by omega) (by omega) (fun x hx => by
    have X := gP.sc x hx
    have h1 := rising_len X.mv
    have h2 := rising_len X.rs
    have := gP.nf
    omega) (F := now) (by omega)
  have e1 : Ent c.P 93 := by rw [hP]; exact en93.h
  have e2 : Ent c.P 76 := by rw [hP]; exact en76.h
  rcases h with ⟨rfl, rfl⟩ | ⟨j, cap, rs, rfl, hj, hrs, hle⟩
  · refine sq_ev hd1 (ev_call (first := []) (cap := []) (args := [plA p, ints []]) e1 (Less.rfl' _) (by rw [hP]; exact hw) ⟨hx, hy.trans (less_nil 1), trivial⟩) ?_
    refine sq_ev hd2 (ev_call (first := []) (cap := []) (args := [plA (outP p [])]) e2 (Less.rfl' _) (by rw [hP]; exact hf) ⟨?_, trivial⟩) ?_
    · exact Less.eq sget_put_eq
    · exact k _ fa fb
  · exact sq_lend2 (args' := [plA p, .msl (3 + j) 0 now.length cap]) (args := [plA p, ints now]) (v1 := plA (outP p now)) (v2 := .tup [.raw (.agg #[.int .i64 fa, .int .i64 fb]), I (if okF p now = true then 0 else 7)]) (j := 3 + j) (n := now.length) (cap := cap) (sz := 1) (es := now.map fun x => [I x]) (rs := rs) hd1 hd2 e1 e2 (Less.rfl' _) (Less.rfl' _) ⟨hx, hy, trivial⟩
      (.cons (Fz.same _) (.cons Fz.frozen .nil)) (now_obj hj) (by simp) (sz1 now) (by rw [hP]; exact hw) (by rw [hP]; exact hf.less ⟨Less.rfl' _, trivial⟩ (lack_raw _ _ _)) rfl (raw_lack _ _ _) hn1 (k _ fa fb)
theorem sq_now_append {p : Ply} {a b : AV} {G : List AObj} {now : List Int} {u v : Operand} {n : Int} (hP : c.P = Tryz.prog) (hd : dOK c.nt d = true) (hl : now.length ≤ 1000) (h : NowI G a now)
    (hx : Less ((⟨sl, plH p b G, df⟩ : St).op u) a) (hy : Less ((⟨sl, plH p b G, df⟩ : St).op v) (.sl 1 [[I n]]))
    (k : ∀ a' G', NowI G' a' (now ++ [n]) → SeqWP c ops Q (i + 1) rest (St.put ⟨sl, plH p b G', df⟩ d a')) :
    SeqWP c ops Q i (⟨d, .call ⟨.builtin .append, #[u, v], #[22, 22]⟩, t, pp, af, none⟩ :: rest) ⟨sl, plH p b G, df⟩ := by
  have hlen : (plH p b G).length = 3 + G.length := by simp [plH]; omega
  rcases h with ⟨rfl, rfl⟩ | ⟨j, cap, rs, rfl, hj, hrs, hle⟩
  · refine sq_append_msl (xs := [[I n]]) hd (by rw [hP]; exact sf22.h) (by rw [hP]; exact Tryz.underlying22) (hx.trans (less_nilx 1)) hy (by simp) (by simp) (by simp) fun cap hcap => ?_
    rw [hlen]
    have e1 : plH p b G ++ [.cells ([[I n]].flatten ++ List.replicate ((cap - [[I n]].length) * 1) .any)] = plH p b (G ++ [.cells ([[I n]].flatten ++ List.replicate ((cap - [[I n]].length) * 1) .any)]) := by simp [plH]
    rw [e1]
    refine k _ _ (.inr ⟨G.length, cap, List.replicate ((cap - 1) * 1) .any, rfl, ?_, ?_, ?_⟩)
    · simp
    · simp
    · simpa using hcap
  · have ho := now_obj (p := p) (b := b) hj
    refine sq_append_m (es := now.map fun x => [I x]) (xs := [[I n]]) (rs := rs) hd (by rw [hP]; exact sf22.h) (by rw [hP]; exact Tryz.underlying22) hx ho (by simp) (sz1 now) hrs hy (by simp; omega) (by simp; omega) (fun hfit => ?_) (fun cap' hcap => ?_)
    · have e1 : (plH p b G).set (3 + j) (.cells ((now.map (fun x => [I x]) ++ [[I n]]).flatten ++ rs.drop ([[I n]].length * 1))) =
          plH p b (G.set j (.cells ((now.map (fun x => [I x]) ++ [[I n]]).flatten ++ rs.drop ([[I n]].length * 1)))) := by
        unfold plH
        rw [List.set_append_right _ _ (by simp)]; congr 2; simp
      simp only [e1]
      refine k _ _ (.inr ⟨j, cap, rs.drop 1, ?_, ?_, ?_, ?_⟩)
      · simp
      · rw [List.getElem?_set_self (lt_of_get? hj)]; simp
      · simp only [List.length_drop, List.length_append, List.length_singleton, hrs]; omega
      · simpa using hfit
    · rw [hlen]
      have e1 : plH p b G ++ [.cells ((now.map (fun x => [I x]) ++ [[I n]]).flatten ++ List.replicate ((cap' - (now.length + [[I n]].length)) * 1) .any)] =
          plH p b (G ++ [.cells ((now.map (fun x => [I x]) ++ [[I n]]).flatten ++ List.replicate ((cap' - (now.length + [[I n]].length)) * 1) .any)]) := by simp [plH]
      rw [e1]
      refine k _ _ (.inr ⟨G.length, cap', List.replicate ((cap' - (now.length + 1)) * 1) .any, ?_, ?_, ?_, ?_⟩)
      · simp
      · simp
      · simp
      · simpa using hcap
theorem sq_now {p : Ply} {a b : AV} {G : List AObj} {l : List Int} (t : Nat) (h : NowI G a l) (ht : sget sl t = a) {ro : List Oper} (k : ∀ H', SeqWP c ops Q i ro ⟨[(t, ints l)], H', df⟩) : SeqWP c ops Q i ro ⟨sl, plH p b G, df⟩ := by
  rcases h with ⟨rfl, rfl⟩ | ⟨j, cap, rs, rfl, hj, hrs, hle⟩
  · refine sq_sub (Sub.slots (sl' := [(t, ints [])]) ⟨?_, trivial⟩) (k _)
    rw [ht]; exact less_nil 1
  · exact sq_sub (sub_freezeK [] t (es := l.map fun x => [I x]) (rest := rs) ht (now_obj hj) (by simp) (sz1 l)) (k _)
end app
def SR (p : Ply) (many : Nat) (now : List Int) (frm : Nat) : ARes → List AObj → Prop := fun y H' =>
  ∃ b a' G', y = .ret (B b) ∧ H' = plH p a' G' ∧ (b = true → ∃ l, plan (okF p) many ((every p.figs.length).drop frm) now = some l ∧ NowI G' a' l) ∧ (b = false → plan (okF p) many ((every p.figs.length).drop frm) now = none ∧ NowI G' a' now)
theorem plan_cons {ok : List Int → Bool} {many : Nat} {c : Int} {cs now : List Int} : plan ok (many + 1) (c :: cs) now = match plan ok many cs (now ++ [c]) with | some l => some l | none => plan ok (many + 1) cs now := by rw [plan]; cases plan ok many cs (now ++ [c]) <;> rfl
theorem every_get {n i : Nat} (h : i < (every n).length) : (every n)[i] = (i : Int) := by simp [every]
def leaves (p : Ply) : Option (List Int) := (List.range (p.figs.length + 1)).findSome? fun many => plan (okF p) many (every p.figs.length) []
theorem okF_val (p : Ply) (now : List Int) : decide ((if okF p now = true then (0 : Int) else 7) = 0) = okF p now := by cases okF p now <;> rfl
theorem search_step {p : Ply} (gP : PlB p) (many : Nat) (ih : ∀ mm, many = mm + 1 → ∀ (now : List Int) (frm : Nat) (a : AV) (G : List AObj), now.length + mm ≤ 100 → frm ≤ p.figs.length → NowI G a now → ACall Tryz.prog 92 [I frm, I mm, .iptr (plC p), .ptr 1 0, .ptr 2 0] (plH p a G) (SR p mm now frm)) (now : List Int) (frm : Nat) (a : AV) (G : List AObj) (hlen : now.length + many ≤ 100) (hfr : frm ≤ p.figs.length) (hnow : NowI G a now) : ACall Tryz.prog 92 [I frm, I many, .iptr (plC p), .ptr 1 0, .ptr 2 0] (plH p a G) (SR p many now frm) := by
  refine acall_of (rs := [.tmp 7]) Tryz.func92 rfl rfl (Nat.le_of_ble_eq_true rfl) fun e0 he0 => ?_
  refine wz 3 ?_
  refine iz (fun c_12 c_12' => ?_) (fun c_12 c_12' => ?_)
  ·obtain rfl : many = 0 := by omega
   refine wz 2 ?_
   refine sq_tell (p := p) gP (a := a) (b := a) (G := G) (now := now) rfl (by omega) hnow rfl rfl (Nat.le_of_ble_eq_true rfl) jz jz fun v1 fa fb => ?_
   skip
   refine sq_ev rfl (ev_mv (v := .tup _) jz) ?_
   refine wz 3 ?_
   refine sq_store (j := (plH p a G).length) (off := 0) rfl jz jz rfl (look_mid (plH p a G) _ []) ty99.h rfl rfl ?_
   refine vz 4 ?_
   refine sq_nil (aw_ret ?_)
   refine ⟨rfl, B _, rfl, okF p now, a, G ++ [.cells [I fa, I fb]], congrArg (fun b => ARes.ret (B b)) (okF_val p now), ?_, fun h => ⟨now, by rw [plan, if_pos h], now_app hnow⟩, fun h => ⟨by rw [plan, if_neg (by rw [h]; simp)], now_app hnow⟩⟩
   show List.set (plH p a G ++ [_]) _ _ = _
   rw [List.set_append_right _ _ (Nat.le_refl _), Nat.sub_self]; rfl
  obtain ⟨mm, rfl⟩ : ∃ mm, many = mm + 1 := ⟨many - 1, by omega⟩
  refine wz 2 ?_
  refine aw_loopk (ι := { g : Nat × AV × List AObj // (frm ≤ g.1 ∧ g.1 ≤ p.figs.length) ∧ NowI g.2.2 g.2.1 now ∧ plan (okF p) (mm + 1) ((every p.figs.length).drop frm) now = plan (okF p) (mm + 1) ((every p.figs.length).drop g.1) now }) [1, 2, 3, 4] (fun g => [(10, I g.1.1)]) (fun H g => plH p g.1.2.1 g.1.2.2) (fun g => p.figs.length - g.1.1) (⟨(frm, a, G), ⟨Nat.le_refl _, hfr⟩, hnow, rfl⟩) ⟨jz, jz, jz, jz, jz, trivial⟩ rfl ?_
  rintro ⟨⟨i, a, G⟩, hi, hnow, heq⟩
  refine nz ?_
  dsimp only at hi hnow heq
  have hnk := gP.nf
  refine wz 5 ?_
  refine iz (fun c_27 c_27' => ?_) (fun c_27 c_27' => ?_)
  ·have hil : i < p.figs.length := by omega
   have hdrop : (every p.figs.length).drop i = (i : Int) :: (every p.figs.length).drop (i + 1) := by rw [List.drop_eq_getElem_cons (by rw [every_len]; exact hil), every_get]
   refine wz 2 ?_
   refine sq_ev rfl (ev_buildSlice (es := [[_]]) sf22.h rfl rfl rfl rfl) ?_
   refine sq_now_append (p := p) (a := a) (b := a) (G := G) (now := now) (n := (i : Int)) ?_ ?_ (by omega) hnow ?_ ?_ fun a' G' hnow' => ?_
   ·rfl
   ·rfl
   ·exact jz
   ·exact less_slx _ _
   refine sq_store (j := 1) (off := 0) rfl jz jz (now_cells hnow') rfl ty22.h rfl rfl ?_
   refine wz 5 ?_
   refine sq_call (f := 92) (first := []) (cap := [.iptr (plC p), .ptr 1 0, .ptr 2 0]) (args := [I ((i + 1 : Nat) : Int), I mm, .iptr (plC p), .ptr 1 0, .ptr 2 0]) rfl en92.h jz ⟨less_int (by simp), less_int (by omega), jz, jz, jz, trivial⟩ (ih mm rfl (now ++ [(i : Int)]) (i + 1) a' G' (by simp; omega) (by omega) hnow') ?_ (by rintro v H' ⟨b, a', G', h, _⟩; cases h)
   rintro _ _ ⟨b, a2, G2, h, rfl, hT, hF⟩; cases h
   refine wz 0 ?_
   refine iz (fun c_39 c_39' => ?_) (fun c_39 c_39' => ?_)
   ·refine vz 1 ?_
    refine sq_nil (aw_ret ?_)
    obtain ⟨l2, hp, hn2⟩ := hT (by simpa using c_39)
    exact ⟨rfl, B true, rfl, true, a2, G2, rfl, rfl, fun _ => ⟨l2, by rw [heq, hdrop, plan_cons, hp], hn2⟩, (fun h => by cases h)⟩
   refine aw_skip ?_
   have hF2 := hF (by simpa using c_39)
   obtain ⟨hp0, hnow2⟩ := hF2
   have hF2 := hF (by simpa using c_39)
   rcases hnow2 with ⟨_, h0⟩ | ⟨j, cap, rs, rfl, hj, hrs, hcap⟩
   ·simp at h0
   rw [List.length_append, List.length_singleton] at hrs hcap
   refine wz 2 ?_
   refine sq_ev rfl (ev_len_msl sl22.h jz) ?_
   refine sq_ev rfl (ev_sub (q := (now.length : Int)) jz jz (by rw [wr (by simp <;> omega) (by simp <;> omega)]; simp)) ?_
   refine sq_ev rfl (ev_slice_msl (hi := now.length) sl22.h jz jz (by omega)) ?_
   refine vz 4 ?_
   refine sq_nil ?_
   refine ⟨⟨(i + 1, .msl (3 + j) 0 now.length cap, G2), ⟨by simp only; omega, by simp only; omega⟩, .inr ⟨j, cap, I i :: rs, rfl, by rw [hj]; simp, by simp only [List.length_cons, hrs]; omega, by omega⟩, by rw [heq, hdrop, plan_cons, hF2.1]⟩, by simp only; omega, ?_⟩
   refine Sub.slots ?_
   exact ⟨(by exact less_int (by simp <;> omega)), jz, jz, jz, jz, trivial⟩
  obtain rfl : i = p.figs.length := by omega
  refine wz 1 ?_
  exact ⟨rfl, B false, rfl, false, a, G, rfl, rfl, (fun h => by cases h), fun _ => ⟨by rw [heq]; rw [List.drop_of_length_le (by rw [every_len]; exact Nat.le_refl _), plan], hnow⟩⟩
theorem search_call {p : Ply} (gP : PlB p) : ∀ (many : Nat) (now : List Int) (frm : Nat) (a : AV) (G : List AObj), now.length + many ≤ 100 → frm ≤ p.figs.length → NowI G a now → ACall Tryz.prog 92 [I frm, I many, .iptr (plC p), .ptr 1 0, .ptr 2 0] (plH p a G) (SR p many now frm) := by
  intro many
  induction many with
  | zero => exact search_step gP 0 (fun mm h => by omega)
  | succ k ih => exact search_step gP (k + 1) (fun mm h => by cases h; exact ih)
theorem xleaves_ok {p : Ply} (hh : p.hts.length ≤ 1000000) (hf : p.figs.length ≤ 1000000) (hs : p.scs.length ≤ 1000000) (hx : ∀ x ∈ p.scs, x.moved.length ≤ 1000000 ∧ x.rest.length ≤ 1000000 ∧ x.taken.length ≤ 1000000) (h1 : plOK p = true) {l : List Int} (hpl2 : leaves p = some l) : APure Tryz.prog 35 [plA p] (.tup [ints l, I 0]) := by
  refine ap Tryz.func35 (fun e0 he0 => ?_)
  refine vz 3 ?_
  refine sq_nil ?_
  refine aw_seq ?_
  refine aw_seq ?_
  have hpl := isplay_pure p hh hf hs hx
  rw [h1] at hpl
  have gP := plOK_B h1
  have hnk := gP.nf
  refine wz 1 ?_
  refine kz az (hpl) ?_
  refine vz 4 ?_
  refine sq_nil ?_
  refine aw_seq ?_
  refine aw_sub (sub_iptrK [4, 5] 1 (j := 0) (l := plC p) rfl rfl) ?_
  refine nz ?_
  refine wz 7 ?_
  refine aw_loopk (ι := { g : Nat × AV × List AObj // g.1 ≤ p.figs.length + 1 ∧ NowI g.2.2 g.2.1 [] ∧ ∀ m, m < g.1 → plan (okF p) m (every p.figs.length) [] = none }) [4, 5, 14] (fun g => [(15, I g.1.1)]) (fun H g => plH p g.1.2.1 g.1.2.2) (fun g => p.figs.length + 1 - g.1.1) (⟨(0, .raw (.slice none 0 0), []), Nat.zero_le _, .inl ⟨rfl, rfl⟩, by omega⟩) ⟨jz, jz, jz, jz, trivial⟩ rfl ?_
  rintro ⟨⟨m, a, G⟩, hm, hnow, hno⟩
  refine nz ?_
  dsimp only at hm hnow hno
  refine wz 1 ?_
  refine iz (fun c_16 c_16' => ?_) (fun c_16 c_16' => ?_)
  ·have hml : m < p.figs.length + 1 := by omega
   refine wz 4 ?_
   refine sq_call (f := 92) (first := []) (cap := [.iptr (plC p), .ptr 1 0, .ptr 2 0]) (args := [I ((0 : Nat) : Int), I m, .iptr (plC p), .ptr 1 0, .ptr 2 0]) rfl en92.h jz ⟨jz, jz, jz, jz, jz, trivial⟩ (search_call gP m [] 0 a G (by simp; omega) (Nat.zero_le _) hnow) ?_ (by rintro v H' ⟨b, a', G', h, _⟩; cases h)
   rintro _ _ ⟨b, a2, G2, h, rfl, hT, hF⟩; cases h
   refine wz 0 ?_
   refine iz (fun c_20 c_20' => ?_) (fun c_20 c_20' => ?_)
   ·obtain ⟨l2, hp, hn2⟩ := hT (by simpa using c_20)
    rw [List.drop_zero] at hp
    have hpl3 : leaves p = some l2 := findSome_range hml hp hno
    rw [hpl3] at hpl2
    obtain rfl : l2 = l := Option.some.inj hpl2
    refine wz 1 ?_
    refine sq_now (p := p) (b := a2) (G := G2) 21 hn2 rfl fun H9 => ?_
    refine sq_ev rfl (ev_as (v := .sl _ _) jz) ?_
    refine wz 1 ?_
    exact retQ_pure (v := .tup [.sl _ _, .raw _]) rfl rfl (less_tup ⟨jz, jz, trivial⟩)
   rw [List.drop_zero] at hF
   refine vz 2 ?_
   refine sq_nil ?_
   refine ⟨⟨(m + 1, a2, G2), by simp only; omega, (hF (by simpa using c_20)).2, fun q hq => (by by_cases e : q = m; (subst e; exact (hF (by simpa using c_20)).1); exact hno q (by simp only at hq; omega))⟩, by simp only; omega, ?_⟩
   refine Sub.slots ?_
   exact ⟨jz, jz, jz, jz, trivial⟩
  obtain rfl : m = p.figs.length + 1 := by omega
  exfalso
  have : leaves p = none := List.findSome?_eq_none_iff.2 fun j hj => hno j (List.mem_range.1 hj)
  rw [this] at hpl2; cases hpl2
end Go.Proofs.YtfmpabgblbbcdaaGreatDoor
namespace Go.Proofs.YtfmpabgblbbcdaaGreatDoor
open Go Go.Ab Ni St
open Hd hiding sz
instance ar185 : ArE Tryz.prog 185 3 9 1 := ⟨by kernel_rfl⟩
instance bi185 : BdI Tryz.prog 185 [.raw (.string ByteArray.empty), .raw (.string ByteArray.empty), .raw (.string ByteArray.empty)] false [] 1 := ⟨by kernel_rfl⟩
instance en148 : EnT Tryz.prog 148 := ⟨Ent.of Tryz.func148 (by kernel_rfl) rfl⟩
instance en149 : EnT Tryz.prog 149 := ⟨Ent.of Tryz.func149 (by kernel_rfl) rfl⟩
instance en154 : EnT Tryz.prog 154 := ⟨Ent.of Tryz.func154 (by kernel_rfl) rfl⟩
instance en156 : EnT Tryz.prog 156 := ⟨Ent.of Tryz.func156 (by kernel_rfl) rfl⟩
instance en183 : EnT Tryz.prog 183 := ⟨Ent.of Tryz.func183 (by kernel_rfl) rfl⟩
instance en246 : EnT Tryz.prog 246 := ⟨Ent.of Tryz.func246 (by kernel_rfl) rfl⟩
instance en247 : EnT Tryz.prog 247 := ⟨Ent.of Tryz.func247 (by kernel_rfl) rfl⟩
instance en248 : EnT Tryz.prog 248 := ⟨Ent.of Tryz.func248 (by kernel_rfl) rfl⟩
instance en249 : EnT Tryz.prog 249 := ⟨Ent.of Tryz.func249 (by kernel_rfl) rfl⟩
instance fo170_0 : FoF Tryz.prog 170 0 0 26 := ⟨by kernel_rfl⟩
instance fo173_0 : FoF Tryz.prog 173 0 0 82 := ⟨by kernel_rfl⟩
instance fo175_0 : FoF Tryz.prog 175 0 0 41 := ⟨by kernel_rfl⟩
theorem mt170 : methOf Tryz.prog 170 "kelir/stem.words" = some 246 := by kernel_rfl
theorem mt173 : methOf Tryz.prog 173 "kelir/stem.words" = some 248 := by kernel_rfl
theorem mt175 : methOf Tryz.prog 175 "kelir/stem.words" = some 249 := by kernel_rfl
instance ni173 : NiF Tryz.prog 173 := ⟨by kernel_rfl⟩
instance ni175 : NiF Tryz.prog 175 := ⟨by kernel_rfl⟩
instance sf134 : SlS Tryz.prog 134 9 1 16 := ⟨SlFact.of (by kernel_rfl)⟩
instance sl134 : SlE Tryz.prog 134 9 1 := ⟨by kernel_rfl⟩
instance ty185 : TyF Tryz.prog 185 true 3 := ⟨by kernel_rfl⟩
instance ty9 : TyF Tryz.prog 9 false 1 := ⟨by kernel_rfl⟩
instance ud134 : UnD Tryz.prog 134 (.slice 9) := ⟨Tryz.underlying134⟩
instance z173 : ZeO Tryz.prog 173 [.raw (.int .i64 0), .raw (.int .i64 0), .raw (.int .i64 0)] := ⟨by kernel_rfl⟩
instance z175 : ZeO Tryz.prog 175 [.raw (.slice none 0 0), .raw (.slice none 0 0), .raw (.int .i64 0), .raw (.slice none 0 0)] := ⟨by kernel_rfl⟩
instance z185 : ZeO Tryz.prog 185 [.raw (.string ByteArray.empty), .raw (.string ByteArray.empty), .raw (.string ByteArray.empty)] := ⟨by kernel_rfl⟩
inductive Rw where
  | head
  | fig (f : Fgr)
  | scn (x : Scn)
abbrev rowV (p : Ply) : Rw → AV
  | .head => .ifc 170 (.agg (plC p))
  | .fig f => .ifc 173 (.agg (fgC f))
  | .scn x => .ifc 175 (.agg (scC x))
def rowW (p : Ply) : Rw → List (List UInt8)
  | .head => wordsOf (p.left :: p.hts)
  | .fig f => sideW f.side :: wordsOf [f.rank, f.hands]
  | .scn x => Lib.itoa x.knocks :: [listW x.moved, listW x.rest, listW x.taken]
def nameW : Rw → List UInt8
  | .head => wStem
  | .fig _ => wFig
  | .scn _ => wScn
def lineO (p : Ply) (q : Rw) : List UInt8 := Lib.join (nameW q :: rowW p q) [32]
theorem itoa_pure (n : Int) (h0 : -9223372036854775808 ≤ n) (h1 : n ≤ 9223372036854775807) : APure Tryz.prog 149 [I n] (S (Lib.itoa n)) :=
  apure_of_calls (vs := [.int .i64 n]) fun w hw => (Tryz.strconv_Itoa n h0 h1 w hw.2).mono fun _ _ ⟨h1, k, os, h2⟩ => ⟨h1, by rw [h2]; exact ⟨rfl, rfl⟩, os, by rw [h2]; rfl⟩
theorem data_list (l : List (List UInt8)) : (l.map fun r => (⟨r.toArray⟩ : ByteArray)).map (fun b => b.data.toList) = l := by
  rw [List.map_map]
  conv => rhs; rw [← List.map_id l]
  exact List.map_congr_left fun r _ => rfl
theorem join_pure (l : List (List UInt8)) (sep : List UInt8) (h1 : l.length ≤ 1000000) (h2 : (Lib.join l sep).length ≤ 1000000) : APure Tryz.prog 183 [strs l, S sep] (S (Lib.join l sep)) := by
  refine apure_of_strs (more := [.string ⟨sep.toArray⟩]) (fun hl a c w _ => ?_) fun bk o c w _ hc hb hle => ?_
  · subst hl
    refine (Tryz.strings_Join_none a c ⟨sep.toArray⟩ w).mono ?_
    rintro x w' ⟨rfl, rfl⟩
    exact ⟨rfl, Still.refl _, Nat.le_refl _, fun _ _ => rfl⟩
  · have hj : Lib.join ((l.map fun r => (⟨r.toArray⟩ : ByteArray)).map (·.data.toList)) (⟨sep.toArray⟩ : ByteArray).data.toList = Lib.join l sep := by rw [data_list]
    have := Tryz.strings_Join bk o c (l.map fun r => (⟨r.toArray⟩ : ByteArray)) ⟨sep.toArray⟩ w hc hb (by simp; omega) (by simpa using hle) (by rw [hj]; omega)
    rw [hj, List.length_map] at this
    refine this.mono ?_
    rintro x w' ⟨rfl, hB⟩
    exact ⟨rfl, ⟨hB.os, hB.output⟩, hB.size, hB.block⟩
theorem wordsOf_succ {l : List Int} {k : Nat} (h : k < l.length) : wordsOf (l.take (k + 1)) = wordsOf (l.take k) ++ [Lib.itoa l[k]] := by
  unfold wordsOf; rw [List.take_succ_eq_append_getElem h, List.map_append]; rfl
theorem dg_bd {l : List Int} (h : ∀ n ∈ l, Dg n) : ∀ n ∈ l, -1000000 ≤ n ∧ n ≤ 1000000 := fun n hn => by have := h n hn; unfold Dg at this; omega
abbrev xl (x : Scn) : List (List Int) := [x.moved, x.rest, x.taken]
def scW (x : Scn) (k : Nat) : List (List UInt8) := Lib.itoa x.knocks :: ((xl x).take k).map listW
theorem scW_succ {x : Scn} {k : Nat} (h : k < (xl x).length) : scW x (k + 1) = scW x k ++ [listW (xl x)[k]] := by
  unfold scW; rw [List.take_succ_eq_append_getElem h, List.map_append]; rfl
theorem listW_of {l : List Int} (h : 0 < l.length) : Lib.join (wordsOf l) [44] = listW l := by unfold listW; rw [if_neg (fun e => by rw [e] at h; simp at h)]
theorem listW_no {l : List Int} (h : ¬ 0 < l.length) : [45] = listW l := by unfold listW; rw [if_pos (List.length_eq_zero_iff.1 (by omega))]
theorem side_at {s : Int} (h : 1 ≤ s ∧ s ≤ 3) {hk : s.toNat < ([[], wLef, wRig, wEit] : List (List UInt8)).length} : Less (S (([[], wLef, wRig, wEit] : List (List UInt8))[s.toNat])) (S (sideW s)) := by
  obtain rfl | rfl | rfl : s = 1 ∨ s = 2 ∨ s = 3 := by omega
  all_goals exact Less.eq rfl
theorem names_pure  : APure Tryz.prog 154 [] (.agg [S wStem, S wFig, S wScn]) := by
  refine ap Tryz.func154 (fun e0 he0 => ?_)
  refine wz 3 ?_
  exact retQ_res (vs := [.agg _]) rfl rfl ⟨resVar_cell rfl rfl ty185.h rfl, trivial⟩ jz
theorem sides_pure  : APure Tryz.prog 156 [] (strs [[], wLef, wRig, wEit]) := by
  refine ap Tryz.func156 (fun e0 he0 => ?_)
  refine wz 1 ?_
  refine sq_ev rfl (ev_buildSlice (es := [[_], [_], [_], [_]]) sf134.h rfl rfl rfl rfl) ?_
  refine wz 1 ?_
  exact retQ_pure (v := .slx _ _) rfl rfl (Less.trans (less_slx _ _) (Less.eq rfl))
theorem numbers_pure (l : List Int) (hl : l.length ≤ 1000000) (hb : ∀ n ∈ l, -1000000 ≤ n ∧ n ≤ 1000000) : APure Tryz.prog 247 [ints l] (strs (wordsOf l)) := by
  refine ap Tryz.func247 (fun e0 he0 => ?_) (hr := by simp [AV.pureB])
  refine vz 5 ?_
  refine sq_nil ?_
  refine aw_block ?_
  refine aw_sub (sub_token 3 1 jz) ?_
  refine aw_loopk (ι := { k : Nat // k ≤ l.length }) [6, 7] (fun i => [(8, I i.1), (3, .own 0 1 ((wordsOf (l.take i.1)).map fun x => [S x]))]) (fun H i => H.set 0 (.tok ((wordsOf (l.take i.1)).map fun x => [S x]).length)) (fun i => l.length - i.1) (⟨0, Nat.zero_le _⟩) ⟨jz, jz, jz, jz, trivial⟩ rfl ?_
  rintro ⟨k, hk⟩
  refine nz ?_
  have hwl : (wordsOf (l.take k)).length ≤ 1000000 := by simp [wordsOf]; omega
  refine wz 1 ?_
  refine iz (fun c_9 c_9' => ?_) (fun c_9 c_9' => ?_)
  ·have hk6 : k < l.length := by omega
   have hb2 := hb _ (List.getElem_mem hk6)
   have eS : ((wordsOf (l.take (k + 1))).map fun x => [S x]) = ((wordsOf (l.take k)).map fun x => [S x]) ++ [[S (Lib.itoa l[k])]] := by rw [wordsOf_succ hk6, List.map_append]; rfl
   refine wz 5 ?_
   refine kz az (itoa_pure _ (by omega) (by omega)) ?_
   refine sq_ev rfl (ev_buildSlice (es := [[_]]) sf134.h rfl rfl rfl rfl) ?_
   first | refine sq_append rfl sf134.h Tryz.underlying134 rfl rfl jz (Nat.succ_pos _) (by simp; omega) (by simp; omega) ?_ | refine sq_append rfl sf134.h Tryz.underlying134 rfl rfl (less_slx _ _) (Nat.succ_pos _) (by simp; omega) (by simp; omega) ?_
   refine wz 3 ?_
   exact ⟨⟨k + 1, by omega⟩, by simp only; omega, sb 1 ⟨jz, Less.eq (by rw [eS] <;> rfl), jz, jz, trivial⟩ (hH := (congrArg (fun n => [AObj.tok n]) (congrArg List.length eS.symm)))⟩
  obtain rfl : k = l.length := by omega
  refine wz 2 ?_
  exact retQ_pure (v := .own _ _ _) rfl rfl (Less.trans (less_own _ _ _) (Less.eq (by rw [List.take_length])))
theorem numbers_own (l : List Int) (hl : l.length ≤ 1000000) (hb : ∀ n ∈ l, -1000000 ≤ n ∧ n ≤ 1000000) : ACall Tryz.prog 247 [ints l] [.dead] (fun y H' => y = .ret (.own 1 1 ((wordsOf l).map fun x => [S x])) ∧ H' = [.dead, .tok ((wordsOf l).map fun x => [S x]).length]) := by
  refine acall_of (rs := [.tmp 2]) Tryz.func247 rfl rfl (Nat.le_of_ble_eq_true rfl) fun e0 he0 => ?_
  refine vz 5 ?_
  refine sq_nil ?_
  refine aw_block ?_
  refine aw_sub (sub_token 3 1 jz) ?_
  refine aw_loopk (ι := { k : Nat // k ≤ l.length }) [6, 7] (fun i => [(8, I i.1), (3, .own 1 1 ((wordsOf (l.take i.1)).map fun x => [S x]))]) (fun H i => H.set 1 (.tok ((wordsOf (l.take i.1)).map fun x => [S x]).length)) (fun i => l.length - i.1) (⟨0, Nat.zero_le _⟩) ⟨jz, jz, jz, jz, trivial⟩ rfl ?_
  rintro ⟨k, hk⟩
  refine nz ?_
  have hwl : (wordsOf (l.take k)).length ≤ 1000000 := by simp [wordsOf]; omega
  refine wz 1 ?_
  refine iz (fun c_9 c_9' => ?_) (fun c_9 c_9' => ?_)
  ·have hk6 : k < l.length := by omega
   have hb2 := hb _ (List.getElem_mem hk6)
   have eS : ((wordsOf (l.take (k + 1))).map fun x => [S x]) = ((wordsOf (l.take k)).map fun x => [S x]) ++ [[S (Lib.itoa l[k])]] := by rw [wordsOf_succ hk6, List.map_append]; rfl
   refine wz 5 ?_
   refine kz az (itoa_pure _ (by omega) (by omega)) ?_
   refine sq_ev rfl (ev_buildSlice (es := [[_]]) sf134.h rfl rfl rfl rfl) ?_
   first | refine sq_append rfl sf134.h Tryz.underlying134 rfl rfl jz (Nat.succ_pos _) (by simp; omega) (by simp; omega) ?_ | refine sq_append rfl sf134.h Tryz.underlying134 rfl rfl (less_slx _ _) (Nat.succ_pos _) (by simp; omega) (by simp; omega) ?_
   refine wz 3 ?_
   exact ⟨⟨k + 1, by omega⟩, by simp only; omega, sb 2 ⟨jz, Less.eq (by rw [eS] <;> rfl), jz, jz, trivial⟩ (hH := (congrArg (fun n => [_, AObj.tok n]) (congrArg List.length eS.symm)))⟩
  obtain rfl : k = l.length := by omega
  refine wz 2 ?_
  exact ⟨rfl, _, rfl, by rw [List.take_length]; rfl, by rw [List.take_length]; rfl⟩
theorem headw_pure (p : Ply) (hl : p.hts.length ≤ 100000) (hb : ∀ n ∈ p.left :: p.hts, -1000000 ≤ n ∧ n ≤ 1000000) : APure Tryz.prog 246 [.agg (plC p)] (strs (wordsOf (p.left :: p.hts))) := by
  refine ap Tryz.func246 (fun e0 he0 => ?_) (hr := by simp [AV.pureB])
  refine wz 5 ?_
  refine sq_ev rfl (ev_buildSlice (es := [[_]]) sf22.h rfl rfl rfl rfl) ?_
  refine wz 3 ?_
  refine sq_ev rfl (ev_append sf22.h Tryz.underlying22 jz jz (by simp <;> omega) (by simp <;> omega)) ?_
  refine sq_ev rfl (ev_call en247.h jz (numbers_pure (p.left :: p.hts) (by simp; omega) hb) ⟨Less.eq rfl, trivial⟩) ?_
  refine wz 1 ?_
  exact retQ_pure (v := .sl _ _) rfl rfl jz
theorem handw_pure (f : Fgr) (hs : 1 ≤ f.side ∧ f.side ≤ 3) (hb : ∀ n ∈ [f.rank, f.hands], -1000000 ≤ n ∧ n ≤ 1000000) : APure Tryz.prog 248 [.agg (fgC f)] (strs (sideW f.side :: wordsOf [f.rank, f.hands])) := by
  refine ap Tryz.func248 (fun e0 he0 => ?_) (hr := by simp only [AV.pureB]; exact pureE_map fun x _ => rfl)
  refine wz 2 ?_
  refine aw_draw 17 mo (by kernel_rfl) ?_
  refine dkz az (sides_pure) ?_
  refine dz 3 ?_
  refine dr_ev rfl (ev_index_map (k := f.side.toNat) (xs := [[], wLef, wRig, wEit]) sl134.h jz jz (by omega) (by simp only [List.length_cons, List.length_nil]; omega)) ?_
  refine dr_ev rfl (ev_less (ev_load_i jz ty9.h rfl) (side_at hs)) ?_
  refine dr_ev rfl (ev_buildSlice (es := [[_]]) sf134.h rfl rfl rfl rfl) ?_
  refine dz 6 ?_
  refine dr_ev rfl (ev_buildSlice (es := [[_], [_]]) sf22.h rfl rfl rfl rfl) ?_
  refine dr_ev rfl (ev_call en247.h jz (numbers_pure [f.rank, f.hands] (by simp) hb) ⟨Less.trans (less_slx _ _) (Less.eq rfl), trivial⟩) ?_
  refine dr_ev rfl (ev_append sf134.h Tryz.underlying134 jz jz (by simp [wordsOf]) (by simp [wordsOf])) ?_
  refine dz 1 ?_
  refine wz 0 ?_
  exact retQ_pure (v := .sl _ _) rfl rfl jz
theorem scenew_pure (x : Scn) (hk0 : -1000000 ≤ x.knocks ∧ x.knocks ≤ 1000000) (hxl : ∀ l ∈ xl x, l.length ≤ 100000 ∧ (∀ n ∈ l, -1000000 ≤ n ∧ n ≤ 1000000) ∧ (listW l).length ≤ 1000000) : APure Tryz.prog 249 [.agg (scC x)] (strs (Lib.itoa x.knocks :: [listW x.moved, listW x.rest, listW x.taken])) := by
  refine ap Tryz.func249 (fun e0 he0 => ?_) (hr := by simp [AV.pureB, AV.pureE, AV.pureL])
  refine vz 2 ?_
  refine sq_nil ?_
  refine aw_seq ?_
  refine aw_sub (sub_iptrK [] 1 (j := 0) (l := scC x) rfl rfl) ?_
  refine nz ?_
  refine wz 3 ?_
  refine sq_ev rfl (ev_buildSlice (es := [[_]]) sf22.h rfl rfl rfl rfl) ?_
  refine sq_call (args := [ints [x.knocks]]) rfl en247.h jz ⟨Less.trans (less_slx _ _) (Less.eq rfl), trivial⟩ (numbers_own [x.knocks] (by simp) (fun n hn => by rw [List.mem_singleton] at hn; rw [hn]; exact hk0)) ?_ (by rintro v H' ⟨h, _⟩; cases h)
  rintro v H' ⟨h, rfl⟩
  cases h
  refine wz 10 ?_
  refine sq_ev rfl (ev_less (ev_buildSlice (es := [[_], [_], [_]]) sf61.h rfl rfl rfl rfl) (Less.eq (b := .slx 1 ((xl x).map fun l => [ints l])) rfl)) ?_
  refine sq_ev rfl (ev_len_map (xs := xl x) (f := fun l => [ints l]) sl61.h (Less.trans (less_slx _ _) (Less.eq rfl))) ?_
  refine wz 1 ?_
  refine aw_loopk (ι := { k : Nat // k ≤ (xl x).length }) [21, 22] (fun g => [(23, I (g.1 : Nat)), (3, .own 1 1 ((scW x g.1).map fun w => [S w]))]) (fun H g => H.set 1 (.tok ((scW x g.1).map fun w => [S w]).length)) (fun g => (xl x).length - g.1) (⟨0, Nat.zero_le _⟩) ⟨jz, jz, jz, jz, trivial⟩ rfl ?_
  rintro ⟨k, hk⟩
  refine nz ?_
  have hx3 : (xl x).length = 3 := rfl
  have hwl : (scW x k).length ≤ 1000 := by unfold scW; simp; omega
  refine wz 1 ?_
  refine iz (fun c_24 c_24' => ?_) (fun c_24 c_24' => ?_)
  ·have hkx : k < (xl x).length := by omega
   have hxk := hxl _ (List.getElem_mem hkx)
   refine wz 0 ?_
   refine sq_ev rfl (ev_index_map (k := k) (xs := xl x) (f := fun l => [ints l]) sl61.h (Less.trans (less_slx _ _) (Less.eq rfl)) jz rfl hkx) ?_
   refine wz 6 ?_
   refine iz (fun c_29 c_29' => ?_) (fun c_29 c_29' => ?_)
   ·have hpos : 0 < (xl x)[k].length := by omega
    have eS : ((scW x (k + 1)).map fun w => [S w]) = ((scW x k).map fun w => [S w]) ++ [[S (Lib.join (wordsOf (xl x)[k]) [44])]] := by rw [scW_succ hkx, List.map_append, listW_of hpos]; rfl
    refine wz 1 ?_
    refine kz az (numbers_pure (xl x)[k] (by omega) hxk.2.1) ?_
    refine kz az (join_pure (wordsOf (xl x)[k]) [44] (by simp [wordsOf]; omega) (by rw [listW_of hpos]; exact hxk.2.2)) ?_
    refine wz 3 ?_
    refine sq_ev rfl (ev_buildSlice (es := [[_]]) sf134.h rfl rfl rfl rfl) ?_
    first | refine sq_append rfl sf134.h Tryz.underlying134 rfl rfl jz (Nat.succ_pos _) (by simp; omega) (by simp; omega) ?_ | refine sq_append rfl sf134.h Tryz.underlying134 rfl rfl (less_slx _ _) (Nat.succ_pos _) (by simp; omega) (by simp; omega) ?_
    refine wz 3 ?_
    exact ⟨⟨k + 1, by omega⟩, by simp only; omega, sb 2 ⟨jz, Less.eq (by rw [eS] <;> rfl), jz, jz, trivial⟩ (hH := (congrArg (fun m => [_, AObj.tok m]) (congrArg List.length eS.symm)))⟩
   have hpos : ¬ 0 < (xl x)[k].length := by omega
   have eS : ((scW x (k + 1)).map fun w => [S w]) = ((scW x k).map fun w => [S w]) ++ [[S [45]]] := by rw [scW_succ hkx, List.map_append, listW_no hpos]; rfl
   refine wz 2 ?_
   refine sq_ev rfl (ev_buildSlice (es := [[_]]) sf134.h rfl rfl rfl rfl) ?_
   first | refine sq_append rfl sf134.h Tryz.underlying134 rfl rfl jz (Nat.succ_pos _) (by simp; omega) (by simp; omega) ?_ | refine sq_append rfl sf134.h Tryz.underlying134 rfl rfl (less_slx _ _) (Nat.succ_pos _) (by simp; omega) (by simp; omega) ?_
   refine wz 3 ?_
   exact ⟨⟨k + 1, by omega⟩, by simp only; omega, sb 2 ⟨jz, Less.eq (by rw [eS] <;> rfl), jz, jz, trivial⟩ (hH := (congrArg (fun m => [_, AObj.tok m]) (congrArg List.length eS.symm)))⟩
  obtain rfl : k = 3 := by omega
  refine wz 2 ?_
  exact retQ_pure (v := .own _ _ _) rfl rfl (Less.trans (less_own _ _ _) (Less.eq rfl))
theorem lineH_pure (p : Ply) (hl : p.hts.length ≤ 100000) (hb : ∀ n ∈ p.left :: p.hts, -1000000 ≤ n ∧ n ≤ 1000000) (hj : (lineO p .head).length ≤ 1000000) (hn : (rowW p .head).length ≤ 100000) : APure Tryz.prog 148 [rowV p .head] (S (lineO p .head)) := by
  refine ap Tryz.func148 (fun e0 he0 => ?_) (hp := by simp [AV.pureL, AV.pureB, AV.pureE, pureE_map])
  refine vz 1 ?_
  refine sq_nil ?_
  refine aw_seq ?_
  have hn2 := hn
  simp only [rowW, List.length_cons] at hn2
  refine wz 2 ?_
  refine sq_ev rfl (ev_assert_no ni173.h z173.h rfl jz) ?_
  refine wz 3 ?_
  refine sq_ev rfl (ev_assert_no ni175.h z175.h rfl jz) ?_
  refine wz 3 ?_
  refine aw_draw 9 mo (by kernel_rfl) ?_
  refine dkz az (names_pure) ?_
  refine dz 1 ?_
  refine dr_ev rfl (ev_indexv (k := 0) ar185.h ty9.h jz jz rfl (by decide) rfl) ?_
  refine dr_ev rfl (ev_buildSlice (es := [[_]]) sf134.h rfl rfl rfl rfl) ?_
  refine dz 1 ?_
  refine dr_ev rfl (ev_invoke mt170 en246.h jz (headw_pure p hl hb)) ?_
  refine dr_ev rfl (ev_append sf134.h Tryz.underlying134 jz jz (by simp <;> omega) (by simp <;> omega)) ?_
  refine dkz az (join_pure (nameW .head :: rowW p .head) [32] (by simp only [List.length_cons]; omega) hj) ?_
  refine dz 1 ?_
  refine wz 0 ?_
  exact rz rfl jz
theorem lineF_pure (p : Ply) (f : Fgr) (hs : 1 ≤ f.side ∧ f.side ≤ 3) (hb : ∀ n ∈ [f.rank, f.hands], -1000000 ≤ n ∧ n ≤ 1000000) (hj : (lineO p (.fig f)).length ≤ 1000000) (hn : (rowW p (.fig f)).length ≤ 100000) : APure Tryz.prog 148 [rowV p (.fig f)] (S (lineO p (.fig f))) := by
  refine ap Tryz.func148 (fun e0 he0 => ?_) (hp := by simp [AV.pureL, AV.pureB, AV.pureE, pureE_map])
  refine vz 1 ?_
  refine sq_nil ?_
  refine aw_seq ?_
  have hn2 := hn
  simp only [rowW, List.length_cons] at hn2
  refine wz 2 ?_
  refine sq_ev rfl (ev_assert_yes ni173.h jz) ?_
  refine wz 4 ?_
  refine aw_draw 9 mo (by kernel_rfl) ?_
  refine dkz az (names_pure) ?_
  refine dz 1 ?_
  refine dr_ev rfl (ev_indexv (k := 1) ar185.h ty9.h jz jz rfl (by decide) rfl) ?_
  refine dr_ev rfl (ev_buildSlice (es := [[_]]) sf134.h rfl rfl rfl rfl) ?_
  refine dz 1 ?_
  refine dr_ev rfl (ev_invoke mt173 en248.h jz (handw_pure f hs hb)) ?_
  refine dr_ev rfl (ev_append sf134.h Tryz.underlying134 jz jz (by simp <;> omega) (by simp <;> omega)) ?_
  refine dkz az (join_pure (nameW (.fig f) :: rowW p (.fig f)) [32] (by simp only [List.length_cons]; omega) hj) ?_
  refine dz 1 ?_
  refine wz 0 ?_
  exact rz rfl jz
theorem lineS_pure (p : Ply) (x : Scn) (hk0 : -1000000 ≤ x.knocks ∧ x.knocks ≤ 1000000) (hxl : ∀ l ∈ xl x, l.length ≤ 100000 ∧ (∀ n ∈ l, -1000000 ≤ n ∧ n ≤ 1000000) ∧ (listW l).length ≤ 1000000) (hj : (lineO p (.scn x)).length ≤ 1000000) (hn : (rowW p (.scn x)).length ≤ 100000) : APure Tryz.prog 148 [rowV p (.scn x)] (S (lineO p (.scn x))) := by
  refine ap Tryz.func148 (fun e0 he0 => ?_) (hp := by simp [AV.pureL, AV.pureB, AV.pureE, pureE_map])
  refine vz 1 ?_
  refine sq_nil ?_
  refine aw_seq ?_
  have hn2 := hn
  simp only [rowW, List.length_cons] at hn2
  refine wz 2 ?_
  refine sq_ev rfl (ev_assert_no ni173.h z173.h rfl jz) ?_
  refine wz 3 ?_
  refine sq_ev rfl (ev_assert_yes ni175.h jz) ?_
  refine wz 4 ?_
  refine aw_draw 9 mo (by kernel_rfl) ?_
  refine dkz az (names_pure) ?_
  refine dz 1 ?_
  refine dr_ev rfl (ev_indexv (k := 2) ar185.h ty9.h jz jz rfl (by decide) rfl) ?_
  refine dr_ev rfl (ev_buildSlice (es := [[_]]) sf134.h rfl rfl rfl rfl) ?_
  refine dz 1 ?_
  refine dr_ev rfl (ev_invoke mt175 en249.h jz (scenew_pure x hk0 hxl)) ?_
  refine dr_ev rfl (ev_append sf134.h Tryz.underlying134 jz jz (by simp <;> omega) (by simp <;> omega)) ?_
  refine dkz az (join_pure (nameW (.scn x) :: rowW p (.scn x)) [32] (by simp only [List.length_cons]; omega) hj) ?_
  refine dz 1 ?_
  refine wz 0 ?_
  exact rz rfl jz
end Go.Proofs.YtfmpabgblbbcdaaGreatDoor
namespace Go.Proofs.YtfmpabgblbbcdaaGreatDoor
open Go Go.Ab Ni St
open Hd hiding sz
instance bi170 : BdI Tryz.prog 170 [.raw (.int .i64 0), .raw (.slice none 0 0), .raw (.slice none 0 0), .raw (.slice none 0 0)] true [(0, 4)] 0 := ⟨by kernel_rfl⟩
instance bi173 : BdI Tryz.prog 173 [.raw (.int .i64 0), .raw (.int .i64 0), .raw (.int .i64 0)] true [(0, 3)] 0 := ⟨by kernel_rfl⟩
instance bi175 : BdI Tryz.prog 175 [.raw (.slice none 0 0), .raw (.slice none 0 0), .raw (.int .i64 0), .raw (.slice none 0 0)] true [(0, 4)] 0 := ⟨by kernel_rfl⟩
instance en104 : EnT Tryz.prog 104 := ⟨Ent.of Tryz.func104 (by kernel_rfl) rfl⟩
instance ni170 : NiF Tryz.prog 170 := ⟨by kernel_rfl⟩
instance sf171 : SlS Tryz.prog 171 177 1 16 := ⟨SlFact.of (by kernel_rfl)⟩
instance sl171 : SlE Tryz.prog 171 177 1 := ⟨by kernel_rfl⟩
instance ty177 : TyF Tryz.prog 177 false 1 := ⟨by kernel_rfl⟩
instance ud171 : UnD Tryz.prog 171 (.slice 177) := ⟨Tryz.underlying171⟩
instance ud3 : UnD Tryz.prog 3 (.int .i64) := ⟨Tryz.underlying3⟩
instance ud5 : UnD Tryz.prog 5 (.int .u8) := ⟨Tryz.underlying5⟩
instance ud9 : UnD Tryz.prog 9 .string := ⟨Tryz.underlying9⟩
instance z82 : ZeO Tryz.prog 82 [.raw (.int .i64 0), .raw (.int .i64 0), .raw (.int .i64 0)] := ⟨by kernel_rfl⟩
structure SmP (p : Ply) : Prop where
  td : TdP p
  nh : p.hts.length ≤ 1000
  nf : p.figs.length ≤ 500
  ns : p.scs.length ≤ 500
  ll : ∀ x ∈ p.scs, ∀ l ∈ xl x, l.length ≤ 1000 ∧ (listW l).length ≤ 10000
  line : ∀ l ∈ linesS p, l.length ≤ 1000
theorem sm_ok {p : Ply} (h : plOK p = true) : SmP p := by
  have B := plOK_B h
  have td := ok_td h
  have nf := B.nf; have ns := B.ns; have nh := B.nh
  refine ⟨td, by omega, by omega, by omega, fun x hx l hl => ?_, fun l hl => Nat.le_trans (ok_line h l hl) (by omega)⟩
  have X := B.sc x hx
  have dx := td.scn x hx
  have h2 := rising_len X.mv; have h3 := X.r4; have h4 := rising_len X.tk
  simp only [List.mem_cons, List.not_mem_nil, or_false] at hl
  rcases hl with rfl | rfl | rfl
  · have := listW_len dx.2.1; omega
  · have := listW_len dx.2.2.1; omega
  · have := listW_len dx.2.2.2; omega
def rowsF (p : Ply) (k : Nat) : List Rw := .head :: (p.figs.take k).map .fig
def rowsG (p : Ply) (k : Nat) : List Rw := rowsF p p.figs.length ++ (p.scs.take k).map .scn
def rowsB (p : Ply) : List Rw := rowsG p p.scs.length
theorem rowsF_succ {p : Ply} {k : Nat} (h : k < p.figs.length) : rowsF p (k + 1) = rowsF p k ++ [.fig p.figs[k]] := by
  unfold rowsF; rw [List.take_succ_eq_append_getElem h, List.map_append]; rfl
theorem rowsG_succ {p : Ply} {k : Nat} (h : k < p.scs.length) : rowsG p (k + 1) = rowsG p k ++ [.scn p.scs[k]] := by
  unfold rowsG; rw [List.take_succ_eq_append_getElem h, List.map_append, ← List.append_assoc]; rfl
theorem rowsG_zero (p : Ply) : rowsG p 0 = rowsF p p.figs.length := by unfold rowsG; simp
theorem rowsF_len {p : Ply} {k : Nat} (h : k ≤ p.figs.length) : (rowsF p k).length = k + 1 := by simp [rowsF]; omega
theorem rowsG_len {p : Ply} {k : Nat} (h : k ≤ p.scs.length) : (rowsG p k).length = p.figs.length + 1 + k := by unfold rowsG; rw [List.length_append, rowsF_len (Nat.le_refl _)]; simp; omega
theorem rowsB_mem {p : Ply} {q : Rw} (h : q ∈ rowsB p) : q = .head ∨ (∃ f ∈ p.figs, q = .fig f) ∨ ∃ x ∈ p.scs, q = .scn x := by
  unfold rowsB rowsG rowsF at h
  rcases List.mem_append.1 h with h | h
  · rcases List.mem_cons.1 h with h | h
    · exact .inl h
    · obtain ⟨f, hf, rfl⟩ := List.mem_map.1 h
      exact .inr (.inl ⟨f, List.mem_of_mem_take hf, rfl⟩)
  · obtain ⟨x, hx, rfl⟩ := List.mem_map.1 h
    exact .inr (.inr ⟨x, List.mem_of_mem_take hx, rfl⟩)
theorem lines_rows (p : Ply) : (rowsB p).map (lineO p) = linesS p := by
  unfold rowsB rowsG rowsF linesS
  rw [List.take_length, List.take_length, List.map_append, List.map_cons, List.map_map, List.map_map]; rfl
theorem line_pure {p : Ply} (sm : SmP p) {q : Rw} (h : q ∈ rowsB p) : APure Tryz.prog 148 [rowV p q] (S (lineO p q)) := by
  have hl := sm.line (lineO p q) (by rw [← lines_rows]; exact List.mem_map_of_mem h)
  rcases rowsB_mem h with rfl | ⟨f, hf, rfl⟩ | ⟨x, hx, rfl⟩
  · exact lineH_pure p (by have := sm.nh; omega) (dg_bd sm.td.head) (by omega) (by have := sm.nh; simp [rowW, wordsOf]; omega)
  · have d := sm.td.fig f hf
    exact lineF_pure p f d.1 (dg_bd fun n hn => by rcases List.mem_cons.1 hn with rfl | hn; exact d.2.1; (obtain rfl := List.mem_singleton.1 hn); exact d.2.2) (by omega) (by simp [rowW, wordsOf])
  · have d := sm.td.scn x hx
    refine lineS_pure p x (by have := d.1; unfold Dg at this; omega) (fun l hl2 => ?_) (by omega) (by simp [rowW])
    have h3 := sm.ll x hx l hl2
    refine ⟨by omega, ?_, by omega⟩
    simp only [List.mem_cons, List.not_mem_nil, or_false] at hl2
    rcases hl2 with rfl | rfl | rfl
    · exact dg_bd d.2.1
    · exact dg_bd d.2.2.1
    · exact dg_bd d.2.2.2
@[simp] theorem inE_rows (n : Nat) (p : Ply) (l : List Rw) : AV.inE n (l.map fun q => [rowV p q]) = true := inE_map fun x _ => by cases x <;> simp [rowV, AV.inL, AV.inB]
theorem decDigits_len : ∀ (m u : Nat), u < 10 ^ (m + 1) → (Lib.decDigits u).length ≤ m + 1
  | 0, u, h => by rw [Lib.decDigits, dif_pos (by simpa using h)]; simp
  | m + 1, u, h => by
    rw [Lib.decDigits]
    split
    · simp
    · rw [List.length_append]
      have : u / 10 < 10 ^ (m + 1) := by rw [Nat.pow_succ] at h; omega
      have := decDigits_len m (u / 10) this
      simp; omega
theorem itoa_len {n : Int} (h : -1000000 ≤ n ∧ n ≤ 1000000) : (Lib.itoa n).length ≤ 8 := by
  unfold Lib.itoa
  split
  · have := decDigits_len 6 n.natAbs (by omega)
    simp; omega
  · have := decDigits_len 6 n.toNat (by omega)
    omega
theorem sheet_pure {p : Ply} (sm : SmP p) : APure Tryz.prog 104 [plA p] (S (textS p)) := by
  refine ap Tryz.func104 (fun e0 he0 => ?_)
  refine wz 5 ?_
  refine sq_ev rfl (ev_buildSlice (es := [[_]]) sf171.h rfl rfl rfl rfl) ?_
  refine vz 5 ?_
  refine sq_nil ?_
  refine aw_block ?_
  refine aw_sub (sub_token_slx 3 1 jz) ?_
  refine aw_loopk (ι := { k : Nat // k ≤ p.figs.length }) [1, 19, 20] (fun i => [(21, I i.1), (3, .own 1 1 ((rowsF p i.1).map fun q => [rowV p q]))]) (fun H i => H.set 1 (.tok ((rowsF p i.1).map fun q => [rowV p q]).length)) (fun i => p.figs.length - i.1) (⟨0, Nat.zero_le _⟩) ⟨jz, jz, jz, jz, jz, trivial⟩ rfl ?_
  rintro ⟨k, hk⟩
  refine nz ?_
  have hrl := rowsF_len hk
  have hsl := sm.nf
  refine wz 1 ?_
  refine iz (fun c_22 c_22' => ?_) (fun c_22 c_22' => ?_)
  ·have hk' : k < p.figs.length := by omega
   have eS : (rowsF p (k + 1)).map (fun q => [rowV p q]) = (rowsF p k).map (fun q => [rowV p q]) ++ [[.ifc 173 (.agg (fgC p.figs[k]))]] := by rw [rowsF_succ hk', List.map_append]; rfl
   refine wz 8 ?_
   refine sq_ev rfl (ev_buildSlice (es := [[_]]) sf171.h rfl rfl rfl rfl) ?_
   first | refine sq_append rfl sf171.h Tryz.underlying171 rfl rfl jz (Nat.succ_pos _) (by simp; omega) (by simp; omega) ?_ | refine sq_append rfl sf171.h Tryz.underlying171 rfl rfl (less_slx _ _) (Nat.succ_pos _) (by simp; omega) (by simp; omega) ?_
   refine wz 3 ?_
   exact ⟨⟨k + 1, by omega⟩, by simp only; omega, sb 2 ⟨jz, Less.eq (by rw [eS] <;> rfl), jz, jz, jz, trivial⟩ (hH := (congrArg (fun n => [_, AObj.tok n]) (congrArg List.length eS.symm)))⟩
  obtain rfl : k = p.figs.length := by omega
  refine vz 4 ?_
  refine sq_nil ?_
  refine aw_block ?_
  rw [← rowsG_zero]
  refine aw_loopk (ι := { k : Nat // k ≤ p.scs.length }) [33, 34] (fun i => [(35, I i.1), (3, .own 1 1 ((rowsG p i.1).map fun q => [rowV p q]))]) (fun H i => H.set 1 (.tok ((rowsG p i.1).map fun q => [rowV p q]).length)) (fun i => p.scs.length - i.1) (⟨0, Nat.zero_le _⟩) ⟨jz, jz, jz, jz, trivial⟩ rfl ?_
  rintro ⟨k, hk⟩
  refine nz ?_
  have hrl := rowsG_len hk
  have hsl := sm.ns
  have hsf := sm.nf
  refine wz 1 ?_
  refine iz (fun c_36 c_36' => ?_) (fun c_36 c_36' => ?_)
  ·have hk' : k < p.scs.length := by omega
   have eG : (rowsG p (k + 1)).map (fun q => [rowV p q]) = (rowsG p k).map (fun q => [rowV p q]) ++ [[.ifc 175 (.agg (scC p.scs[k]))]] := by rw [rowsG_succ hk', List.map_append]; rfl
   refine wz 8 ?_
   refine sq_ev rfl (ev_buildSlice (es := [[_]]) sf171.h rfl rfl rfl rfl) ?_
   first | refine sq_append rfl sf171.h Tryz.underlying171 rfl rfl jz (Nat.succ_pos _) (by simp; omega) (by simp; omega) ?_ | refine sq_append rfl sf171.h Tryz.underlying171 rfl rfl (less_slx _ _) (Nat.succ_pos _) (by simp; omega) (by simp; omega) ?_
   refine wz 3 ?_
   exact ⟨⟨k + 1, by omega⟩, by simp only; omega, sb 2 ⟨jz, Less.eq (by rw [eG] <;> rfl), jz, jz, trivial⟩ (hH := (congrArg (fun n => [_, AObj.tok n]) (congrArg List.length eG.symm)))⟩
  obtain rfl : k = p.scs.length := by omega
  have hll0 : (linesS p).length = (rowsB p).length := by rw [← lines_rows, List.length_map]
  have hrl2 : (rowsB p).length = p.figs.length + 1 + p.scs.length := rowsG_len (Nat.le_refl _)
  refine wz 3 ?_
  refine sq_ev rfl (ev_len_map sl171.h (less_own _ _ _)) ?_
  refine vz 1 ?_
  refine sq_nil ?_
  refine aw_block ?_
  have hfull : rowsG p p.scs.length = rowsB p := rfl
  rw [hfull]
  refine aw_loopk (ι := { i : Nat // i ≤ (rowsB p).length }) [46, 47] (fun i => [(48, I i.1), (8, S (outT (linesS p) i.1)), (9, I (ctT (linesS p) i.1))]) (fun H i => H) (fun i => (rowsB p).length - i.1) (⟨0, Nat.zero_le _⟩) ⟨jz, jz, jz, jz, jz, trivial⟩ rfl ?_
  rintro ⟨i, hi⟩
  refine nz ?_
  have hol := outT_len sm.line i (by omega)
  have hct := ctT_bd (by omega) sm.line i (by omega)
  refine wz 1 ?_
  refine iz (fun c_49 c_49' => ?_) (fun c_49 c_49' => ?_)
  ·have hi2 : i < (rowsB p).length := by omega
   have hi3 : i < (linesS p).length := by omega
   have hll := sm.line _ (List.getElem_mem hi3)
   have hle : (linesS p)[i] = lineO p (rowsB p)[i] := by simp only [← lines_rows, List.getElem_map]
   refine wz 1 ?_
   refine sq_ev rfl (ev_index_map sl171.h (less_own _ _ _) jz rfl (by omega)) ?_
   refine wz 2 ?_
   refine sq_ev rfl (ev_as (v := rowV p _) jz) ?_
   refine wz 0 ?_
   refine sq_ev rfl (ev_mv (v := rowV p _) jz) ?_
   refine sq_ev rfl (ev_less (ev_call en148.h jz (line_pure sm (List.getElem_mem hi2)) ⟨jz, trivial⟩) (Less.eq (b := S (linesS p)[i]) (by rw [hle]))) ?_
   refine wz 4 ?_
   refine aw_loopk (ι := { k : Nat // k ≤ (linesS p)[i].length }) [8, 10, 12, 46, 47, 48, 56] (fun k => [(57, I k.1), (9, I (ctT (linesS p) i + csT ((i : Int) + 1) (linesS p)[i] k.1))]) (fun H k => H) (fun k => (linesS p)[i].length - k.1) (⟨0, Nat.zero_le _⟩) ⟨jz, (by exact less_int (by simp [csT])), jz, jz, jz, jz, jz, jz, jz, trivial⟩ rfl ?_
   rintro ⟨k, hk⟩
   refine nz ?_
   have hcs := csT_bd (m := (i : Int) + 1) ⟨by omega, by omega⟩ (linesS p)[i] k hk hll
   refine wz 1 ?_
   refine iz (fun c_58 c_58' => ?_) (fun c_58 c_58' => ?_)
   ·have hk' : k < (linesS p)[i].length := by omega
    have htb := term_bd (b := (linesS p)[i][k]) (j := k) (m := (i : Int) + 1) (by omega) ⟨by omega, by omega⟩
    have hb8 : ((linesS p)[i][k]).toNat < 256 := UInt8.toNat_lt _
    have eK : ctT (linesS p) i + csT ((i : Int) + 1) (linesS p)[i] k + ((linesS p)[i][k].toNat : Int) * ((k : Int) + 1) * ((i : Int) + 1) = ctT (linesS p) i + csT ((i : Int) + 1) (linesS p)[i] (k + 1) := by rw [csT_succ _ hk']; omega
    refine wz 9 ?_
    refine sq_ev rfl (ev_mul jz jz (wr (by omega) (by omega))) ?_
    refine wz 2 ?_
    refine sq_ev rfl (ev_mul jz jz (wr (by omega) (by omega))) ?_
    refine wz 4 ?_
    exact ⟨⟨k + 1, by omega⟩, by simp only; omega, Sub.slots ⟨jz, (by exact less_int eK), jz, jz, jz, jz, jz, jz, jz, trivial⟩⟩
   obtain rfl : k = (linesS p)[i].length := by omega
   have eO : S (outT (linesS p) i ++ ((linesS p)[i] ++ [10])) = S (outT (linesS p) (i + 1)) := by rw [outT_succ hi3]
   have eC : ctT (linesS p) i + csT ((i : Int) + 1) (linesS p)[i] (linesS p)[i].length = ctT (linesS p) (i + 1) := by rw [ctT_succ hi3]; rfl
   refine wz 7 ?_
   exact ⟨⟨i + 1, by omega⟩, by simp only; omega, Sub.slots ⟨jz, Less.eq eO, (by exact less_int eC), jz, jz, trivial⟩⟩
  obtain rfl : i = (rowsB p).length := by omega
  refine wz 1 ?_
  refine sq_ev rfl (ev_less (ev_rem jz jz (by decide)) (less_int (Int.tmod_eq_emod_of_nonneg (by omega)))) ?_
  refine vz 1 ?_
  refine sq_nil ?_
  refine aw_seq ?_
  have i1 := itoa_len (n := ctT (linesS p) (rowsB p).length % 193 / 100) ⟨by omega, by omega⟩
  have i2 := itoa_len (n := ctT (linesS p) (rowsB p).length % 193 / 10 % 10) ⟨by omega, by omega⟩
  have i3 := itoa_len (n := ctT (linesS p) (rowsB p).length % 193 % 10) ⟨by omega, by omega⟩
  refine wz 3 ?_
  refine sq_ev rfl (ev_quo (q := ctT (linesS p) (rowsB p).length % 193 / 100) jz jz (by decide) (qd (by omega) (by omega) (by decide))) ?_
  refine kz az (itoa_pure _ (by omega) (by omega)) ?_
  refine wz 2 ?_
  refine sq_ev rfl (ev_quo (q := ctT (linesS p) (rowsB p).length % 193 / 10) jz jz (by decide) (qd (by omega) (by omega) (by decide))) ?_
  refine sq_ev rfl (ev_less (ev_rem jz jz (by decide)) (less_int (Int.tmod_eq_emod_of_nonneg (by omega)))) ?_
  refine kz az (itoa_pure _ (by omega) (by omega)) ?_
  refine wz 2 ?_
  refine sq_ev rfl (ev_less (ev_rem jz jz (by decide)) (less_int (Int.tmod_eq_emod_of_nonneg (by omega)))) ?_
  refine kz az (itoa_pure _ (by omega) (by omega)) ?_
  refine wz 3 ?_
  exact rz rfl (Less.eq (by simp [textS, sealS, digs3, hll0]))
end Go.Proofs.YtfmpabgblbbcdaaGreatDoor
namespace Go.Proofs.YtfmpabgblbbcdaaGreatDoor
open Go Go.Ab Ni St
open Hd hiding sz
instance bi181 : BdI Tryz.prog 181 [.raw (.string ByteArray.empty)] true [(0, 1)] 0 := ⟨by kernel_rfl⟩
instance en151 : EnT Tryz.prog 151 := ⟨Ent.of Tryz.func151 (by kernel_rfl) rfl⟩
instance en152 : EnT Tryz.prog 152 := ⟨Ent.of Tryz.func152 (by kernel_rfl) rfl⟩
instance en153 : EnT Tryz.prog 153 := ⟨Ent.of Tryz.func153 (by kernel_rfl) rfl⟩
instance en155 : EnT Tryz.prog 155 := ⟨Ent.of Tryz.func155 (by kernel_rfl) rfl⟩
instance en157 : EnT Tryz.prog 157 := ⟨Ent.of Tryz.func157 (by kernel_rfl) rfl⟩
instance ud21 : UnD Tryz.prog 21 (.int .i32) := ⟨Tryz.underlying21⟩
theorem split_pure (s : List UInt8) (c : UInt8) (hs : s.length ≤ 1000000) : APure Tryz.prog 151 [S s, S [c]] (strs (cut c s)) := by
  have hc := splitB_cut c s
  have hlen : (Lib.splitB ⟨#[c]⟩ 0 (Lib.countB ⟨s.toArray⟩ ⟨#[c]⟩) ⟨s.toArray⟩).length = Lib.countB ⟨s.toArray⟩ ⟨#[c]⟩ + 1 := Lib.splitB_all ⟨#[c]⟩ (Nat.le_refl 1) 0 _ _ rfl
  have h := apure_of_row (P := Tryz.prog) (f := 151) (vs := [.string ⟨s.toArray⟩, .string ⟨#[c]⟩]) (us := (Lib.splitB ⟨#[c]⟩ 0 (Lib.countB ⟨s.toArray⟩ ⟨#[c]⟩) ⟨s.toArray⟩).map Value.string) (et := 9)
    (fun u hu => by obtain ⟨x, _, rfl⟩ := List.mem_map.1 hu; rfl) (fun w hw => by
      obtain ⟨m0, m, hg, hm⟩ := hw.1
      have h0 : Tryz.prog.globalNamed "internal/bytealg.MaxLen" = some 1 := by kernel_rfl
      rw [h0] at hg; cases hg
      refine (Tryz.strings_Split ⟨s.toArray⟩ ⟨#[c]⟩ m w (by rw [bs_size]; omega) hm (Nat.le_refl 1)).mono ?_
      rintro x w' ⟨h1, h2⟩
      refine ⟨?_, by rw [h2]; exact ⟨rfl, rfl⟩, by rw [h2]; rfl⟩
      rw [h1, List.length_map, hlen])
  have e : ((Lib.splitB ⟨#[c]⟩ 0 (Lib.countB ⟨s.toArray⟩ ⟨#[c]⟩) ⟨s.toArray⟩).map Value.string).map (fun u => [AV.raw u]) = (cut c s).map fun p => [S p] := by
    rw [← hc, List.map_map, List.map_map]
    refine List.map_congr_left fun x _ => ?_
    simp [Function.comp]
  rw [e] at h; exact h
def SureR (b : Bool) (why : List UInt8) (x : ARes) : Prop := (b = true ∧ x = .ret (.tup [])) ∨ (b = false ∧ x = .pan (.ifc 181 (.agg [S why])))
def tolR (ws : List (List UInt8)) (x : ARes) : Prop := match allO (numO 1) ws with | some l => x = .ret (ints l) | none => ∃ w, x = .pan (.ifc 181 (.agg [S w]))
theorem tolR_none {ws : List (List UInt8)} (h : allO (numO 1) ws = none) (w : List UInt8) : tolR ws (.pan (.ifc 181 (.agg [S w]))) := by unfold tolR; rw [h]; exact ⟨w, rfl⟩
theorem tolR_some {ws : List (List UInt8)} {l : List Int} (h : allO (numO 1) ws = some l) : tolR ws (.ret (ints l)) := by unfold tolR; rw [h]
theorem tolR_ret {ws : List (List UInt8)} {v : AV} (h : tolR ws (.ret v)) : ∃ l, allO (numO 1) ws = some l ∧ v = ints l := by
  unfold tolR at h
  cases hn : allO (numO 1) ws with
  | none => rw [hn] at h; obtain ⟨w, h⟩ := h; cases h
  | some l => rw [hn] at h; cases h; exact ⟨l, rfl, rfl⟩
theorem tolR_pan {ws : List (List UInt8)} {v : AV} (h : tolR ws (.pan v)) : allO (numO 1) ws = none ∧ ∃ w, v = .ifc 181 (.agg [S w]) := by
  unfold tolR at h
  cases hn : allO (numO 1) ws with
  | none => rw [hn] at h; obtain ⟨w, h⟩ := h; cases h; exact ⟨rfl, w, rfl⟩
  | some l => rw [hn] at h; cases h
def lisR (w : List UInt8) (x : ARes) : Prop := match listO w with | some l => x = .ret (ints l) | none => ∃ w, x = .pan (.ifc 181 (.agg [S w]))
theorem lisR_none {w : List UInt8} (h : listO w = none) (u : List UInt8) : lisR w (.pan (.ifc 181 (.agg [S u]))) := by unfold lisR; rw [h]; exact ⟨u, rfl⟩
theorem lisR_some {w : List UInt8} {l : List Int} (h : listO w = some l) : lisR w (.ret (ints l)) := by unfold lisR; rw [h]
theorem lisR_ret {w : List UInt8} {v : AV} (h : lisR w (.ret v)) : ∃ l, listO w = some l ∧ v = ints l := by
  unfold lisR at h
  cases hn : listO w with
  | none => rw [hn] at h; obtain ⟨u, h⟩ := h; cases h
  | some l => rw [hn] at h; cases h; exact ⟨l, rfl, rfl⟩
theorem lisR_pan {w : List UInt8} {v : AV} (h : lisR w (.pan v)) : listO w = none ∧ ∃ u, v = .ifc 181 (.agg [S u]) := by
  unfold lisR at h
  cases hn : listO w with
  | none => rw [hn] at h; obtain ⟨u, h⟩ := h; cases h; exact ⟨rfl, u, rfl⟩
  | some l => rw [hn] at h; cases h
theorem listO_dash : listO [45] = some [] := rfl
theorem listO_cut {w : List UInt8} (h : ¬ w = [45]) : listO w = allO (numO 1) (cut 44 w) := by unfold listO; rw [if_neg h]
theorem num1_no {w : List UInt8} {k : Nat} (h1 : w.length = 1) (hk : k < w.length) (h : isD w[k] = false) : numO 1 w = none := by
  obtain ⟨c, rfl⟩ := List.length_eq_one_iff.1 h1
  obtain rfl : k = 0 := by simp at hk; omega
  exact num1_bad h
theorem sure_pan (b : Bool) (why : List UInt8) : APan Tryz.prog 152 [B b, S why] (SureR b why) := by
  refine APan.of_acall (by simp [AV.pureL, AV.pureB, AV.pureE, pureE_map]) (acall_of (rs := []) Tryz.func152 rfl rfl (Nat.le_of_ble_eq_true rfl) fun e0 he0 => ?_)
  refine wz 2 ?_
  refine iz (fun c_5 c_5' => ?_) (fun c_5 c_5' => ?_)
  ·refine wz 3 ?_
   refine sq_panic jz ?_
   exact ⟨rfl, .pan (.ifc 181 (.agg [S why])), .inr ⟨by simpa using c_5, rfl⟩, rfl, jz⟩
  refine wz 0 ?_
  exact ⟨rfl, .tup [], rfl, .ret (.tup []), .inl ⟨by simpa using c_5, rfl⟩, rfl, jz⟩
theorem told_pan (ws : List (List UInt8)) (hl : ws.length ≤ 1000000) (hw : ∀ w ∈ ws, w.length ≤ 1000000) : APan Tryz.prog 153 [strs ws] (tolR ws) := by
  refine APan.of_acall (by simp [AV.pureL, AV.pureB, AV.pureE, pureE_map]) (acall_of (rs := [.tmp 2]) Tryz.func153 rfl rfl (Nat.le_of_ble_eq_true rfl) fun e0 he0 => ?_)
  refine vz 5 ?_
  refine sq_nil ?_
  refine aw_block ?_
  refine aw_sub (sub_token 3 1 jz) ?_
  refine aw_loopk (ι := { q : List Int // q.length ≤ ws.length ∧ ∀ i, (h : i < q.length) → (h2 : i < ws.length) → numO 1 ws[i] = some q[i] }) [8, 9] (fun q => [(10, I q.1.length), (3, .own 0 1 (q.1.map fun x => [I x]))]) (fun H q => H.set 0 (.tok (q.1.map fun x => [I x]).length)) (fun q => ws.length - q.1.length) (⟨[], by simp, by simp⟩) ⟨jz, jz, jz, jz, trivial⟩ rfl ?_
  rintro ⟨q, hq, hok⟩
  refine nz ?_
  refine wz 1 ?_
  refine iz (fun c_11 c_11' => ?_) (fun c_11 c_11' => ?_)
  ·have hkw : q.length < ws.length := by omega
   refine wz 7 ?_
   refine sq_call (args := [B _, S ws[q.length]]) rfl en152.h jz ⟨jz, jz, trivial⟩ (sure_pan _ _ _) ?_ ?_
   rotate_left
   ·(rintro v _ ⟨rfl, (⟨_, h⟩ | ⟨hb, h⟩)⟩ <;> cases h; exact ⟨rfl, .pan (.ifc 181 (.agg [S _])), tolR_none (allO_bad hkw (num1_len (by simp at hb; omega))) _, rfl, jz⟩)
   rintro v _ ⟨rfl, (⟨hb, h⟩ | ⟨_, h⟩)⟩ <;> cases h
   refine sq_nil ?_
   refine aw_seq ?_
   have hw1 : ws[q.length].length = 1 := by simp at hb; omega
   refine wz 1 ?_
   refine sq_rangeS rfl Tryz.underlying9 jz ?_
   refine wz 0 ?_
   refine aw_loopk (ι := { k : Nat // k ≤ ws[q.length].length ∧ ∀ i, (h : i < ws[q.length].length) → i < k → isD ws[q.length][i] = true }) [5, 8, 9, 10, 20] (fun g => [(3, .own 0 1 ((q ++ dgs ws[q.length] g.1).map fun x => [I x]))]) (fun H g => [.tok ((q ++ dgs ws[q.length] g.1).map fun x => [I x]).length, .raw (.stringIter ⟨ws[q.length].toArray⟩ g.1)]) (fun g => ws[q.length].length - g.1) (⟨0, Nat.zero_le _, by omega⟩) ⟨Less.eq (by rw [show q ++ dgs ws[q.length] 0 = q from List.append_nil q] <;> rfl), jz, jz, jz, jz, jz, trivial⟩ (by rw [show q ++ dgs ws[q.length] 0 = q from List.append_nil q] <;> rfl) ?_
   rintro ⟨k, hk, hds⟩
   refine nz ?_
   have hd1 : (dgs ws[q.length] k).length ≤ 1 := by unfold dgs; simp; omega
   refine wz 0 ?_
   refine sq_nextS rfl jz rfl (fun n_21 => ?_) (fun n_21 => ?_)
   ·have hk1 : k < ws[q.length].length := by rw [bs_size] at n_21; exact n_21
    have hdl := decode_le ⟨ws[q.length].toArray⟩ k
    refine wz 7 ?_
    refine sz 26 (fun g9_2 g9_2' => ?_) (fun g9_2 g9_2' => ?_)
    ·refine wz 4 ?_
     refine sq_call (args := [B _, S ws[q.length]]) rfl en152.h jz ⟨jz, jz, trivial⟩ (sure_pan _ _ _) ?_ ?_
     rotate_left
     ·(rintro v _ ⟨rfl, (⟨_, h⟩ | ⟨hb, h⟩)⟩ <;> cases h; exact ⟨rfl, .pan (.ifc 181 (.agg [S _])), tolR_none (allO_bad hkw (num1_no hw1 hk1 (dec_no hk1 (by simp at hb; omega)))) _, rfl, jz⟩)
     rintro v _ ⟨rfl, (⟨hb9, h⟩ | ⟨_, h⟩)⟩ <;> cases h
     refine sq_nil ?_
     have hb10 := of_decide_eq_true hb9
     have hdec := dec_yes hk1 (by omega) (by omega)
     have hb8 : (ws[q.length][k]).toNat ≤ 57 := ((isD_iff _).1 hdec.2).2
     have eV : ((q ++ dgs ws[q.length] (k + 1)).map fun x => [I x]) = ((q ++ dgs ws[q.length] k).map fun x => [I x]) ++ [[I (((Utf8.decode ⟨ws[q.length].toArray⟩ k).1 : Int) - 48)]] := by rw [dgs_succ hk1, ← List.append_assoc, List.map_append, hdec.1]; rfl
     refine wz 4 ?_
     refine sq_ev rfl (ev_buildSlice (es := [[_]]) sf22.h rfl rfl rfl rfl) ?_
     first | refine sq_append rfl sf22.h Tryz.underlying22 rfl rfl jz (Nat.succ_pos _) (by simp; omega) (by simp; omega) ?_ | refine sq_append rfl sf22.h Tryz.underlying22 rfl rfl (less_slx _ _) (Nat.succ_pos _) (by simp; omega) (by simp; omega) ?_
     refine wz 1 ?_
     exact ⟨⟨k + 1, by omega, fun i h hi => (by by_cases e : i = k; (subst e; exact hdec.2); exact hds i h (by omega))⟩, by simp only; omega, sb 2 ⟨Less.eq (by rw [eV] <;> rfl), jz, jz, jz, jz, jz, trivial⟩ (hH := (by rw [eV, hdec.1] <;> rfl))⟩
    have hnd : isD ws[q.length][k] = false := dec_no hk1 (by omega)
    refine wz 4 ?_
    refine sq_call (args := [B false, S ws[q.length]]) rfl en152.h jz ⟨jz, jz, trivial⟩ (sure_pan _ _ _) ?_ ?_
    rotate_left
    ·(rintro v _ ⟨rfl, (⟨_, h⟩ | ⟨hb, h⟩)⟩ <;> cases h; exact ⟨rfl, .pan (.ifc 181 (.agg [S _])), tolR_none (allO_bad hkw (num1_no hw1 hk1 hnd)) _, rfl, jz⟩)
    rintro v _ ⟨rfl, (⟨hb, _⟩ | ⟨_, h⟩)⟩
    ·cases hb
    ·cases h
   obtain rfl : k = ws[q.length].length := by rw [bs_size] at n_21; omega
   have hn := num1_all hw1 (fun i hi => hds i hi hi)
   have eS : (q ++ [dgV ws[q.length]]).map (fun x => [I x]) = ((q ++ dgs ws[q.length] ws[q.length].length).map fun x => [I x]) := by rw [dgs_one hw1]
   refine wz 4 ?_
   exact ⟨⟨q ++ [dgV ws[q.length]], by simp only [List.length_append, List.length_singleton]; omega, allO_snoc (hk := hkw) hok rfl hn⟩, by simp only [List.length_append, List.length_singleton]; omega, sb 1 ⟨(by exact less_int (by simp)), Less.eq (by rw [eS] <;> rfl), jz, jz, trivial⟩ (hH := (congrArg (fun n => [AObj.tok n]) (congrArg List.length eS.symm)))⟩
  have hqe : q.length = ws.length := by omega
  refine wz 2 ?_
  exact retQ_any (vs := [.own _ _ _]) rfl rfl ⟨resVar_tmp _ _ _, trivial⟩ (⟨.ret (ints q), tolR_some (allO_ok hqe fun i h h2 => hok i h h2), by simp [ARes.pureB, AV.pureB], less_own _ _ _⟩)
theorem list_pan (w : List UInt8) (hw : w.length ≤ 100000) : APan Tryz.prog 157 [S w] (lisR w) := by
  refine APan.of_acall (by simp [AV.pureL, AV.pureB, AV.pureE, pureE_map]) (acall_of (rs := [.tmp 2]) Tryz.func157 rfl rfl (Nat.le_of_ble_eq_true rfl) fun e0 he0 => ?_)
  refine wz 3 ?_
  refine iz (fun c_4 c_4' => ?_) (fun c_4 c_4' => ?_)
  ·have he : w = [45] := by simpa using c_4
   refine wz 1 ?_
   exact ⟨rfl, .raw (.slice none 0 0), rfl, .ret (ints []), lisR_some (by rw [he]; exact listO_dash), by simp [ARes.pureB, AV.pureB, AV.pureE], less_nil 1⟩
  have hne : ¬ w = [45] := by simpa using c_4
  refine wz 1 ?_
  refine kz az (split_pure w 44 (by omega)) ?_
  refine sq_call (args := [strs (cut 44 w)]) rfl en153.h jz ⟨jz, trivial⟩ (told_pan (cut 44 w) (by have := (cut_len 44 w).1; omega) (fun x hx => by have := cut_mem 44 w x hx; omega) _) ?_ ?_
  rotate_left
  ·(rintro v _ ⟨rfl, h⟩; obtain ⟨hn, u, rfl⟩ := tolR_pan h; exact ⟨rfl, .pan (.ifc 181 (.agg [S _])), lisR_none (by rw [listO_cut hne]; exact hn) _, rfl, jz⟩)
  rintro v _ ⟨rfl, h⟩; obtain ⟨l, hn, rfl⟩ := tolR_ret h
  refine wz 1 ?_
  exact ⟨rfl, .sl _ _, rfl, .ret (ints l), lisR_some (by rw [listO_cut hne]; exact hn), by simp [ARes.pureB, AV.pureB], jz⟩
theorem indexS_pure (l : List (List UInt8)) (v : List UInt8) (hl : l.length ≤ 1000000) : APure Tryz.prog 155 [strs l, S v] (I (ixQ (fun x => decide (v = x)) l)) := by
  refine ap Tryz.func155 (fun e0 he0 => ?_)
  refine wz 4 ?_
  refine aw_loopk (ι := { k : Nat // k ≤ l.length ∧ ∀ i, (hi : i < l.length) → i < k → decide (v = l[i]) = false }) [0, 1, 7] (fun i => [(8, I i.1)]) (fun H i => H) (fun i => l.length - i.1) (⟨0, Nat.zero_le _, by omega⟩) ⟨jz, jz, jz, jz, trivial⟩ rfl ?_
  rintro ⟨k, hk, hok⟩
  refine nz ?_
  refine wz 1 ?_
  refine iz (fun c_9 c_9' => ?_) (fun c_9 c_9' => ?_)
  ·have hkL : k < l.length := by omega
   refine wz 8 ?_
   refine iz (fun c_16 c_16' => ?_) (fun c_16 c_16' => ?_)
   ·refine wz 2 ?_
    exact rz rfl (Less.eq (by rw [ixQ_at hkL (by simpa using c_16) hok]))
   refine wz 2 ?_
   exact ⟨⟨k + 1, by omega, fun i hi h => (by by_cases e : i = k; (subst e; simpa using c_16); exact hok i hi (by omega))⟩, by simp only; omega, Sub.slots ⟨jz, jz, jz, jz, trivial⟩⟩
  refine wz 1 ?_
  exact rz rfl (Less.eq (by rw [ixQ_no fun i hi => hok i hi (by omega)]))
end Go.Proofs.YtfmpabgblbbcdaaGreatDoor
