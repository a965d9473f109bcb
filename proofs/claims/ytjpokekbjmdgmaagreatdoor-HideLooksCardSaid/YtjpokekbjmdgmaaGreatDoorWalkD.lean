/-
  A part of the proof: conditions: none beyond each theorem's own.
-/
import Derived.Test.YtjpokekbjmdgmaaGreatDoorWalkC
import Derived.Test.YtjpokekbjmdgmaaGreatDoorLogicC
import Derived.Test.YtjpokekbjmdgmaaGreatDoorLogicD
import Derived.KernelRfl
import Derived.Lib.LaidTab
import Derived.Lib.ItoaNum
import Derived.Test.YtjpokekbjmdgmaaGreatDoorSpecA
import Derived.Test.YtjpokekbjmdgmaaGreatDoorShelf
import Derived.Test.YtjpokekbjmdgmaaGreatDoorWalkA
set_option linter.all false
set_option maxRecDepth 100000
set_option maxHeartbeats 8000000
namespace Go.Proofs.YtjpokekbjmdgmaaGreatDoor
open Go Go.Ab Ni Hd
instance en127 : EnT Tryz.prog 127 := ⟨Ent.of Tryz.func127 (by kernel_rfl) rfl⟩
instance ty147 : TyF Tryz.prog 147 false 1 := ⟨by kernel_rfl⟩
instance z147 : ZeO Tryz.prog 147 [.raw .nilFunc] := ⟨by kernel_rfl⟩
def NowI (G : List AObj) (a : AV) (now : List Int) : Prop :=
  (a = .raw (.slice none 0 0) ∧ now = []) ∨ ∃ j cap rs, a = .msl (3 + j) 0 now.length cap ∧ G[j]? = some (.cells ((now.map fun x => [I x]).flatten ++ rs)) ∧ rs.length = (cap - now.length) * 1 ∧ now.length ≤ cap
abbrev fnV (r : Rg) : AV := .fn (.func 127) [] [.iptr (rgC r), .ptr 1 0, .ptr 2 0]
abbrev plH (r : Rg) (a : AV) (G : List AObj) : List AObj := [.dead, .cells [a], .cells [fnV r]] ++ G
theorem now_cells {G : List AObj} {a : AV} {now : List Int} (h : NowI G a now) : a.cells = some [a] := by
  rcases h with ⟨rfl, _⟩ | ⟨_, _, _, rfl, _⟩ <;> rfl
theorem now_obj {r : Rg} {b : AV} {G : List AObj} {now : List Int} {j : Nat} {rs : List AV} (h : G[j]? = some (.cells ((now.map fun x => [I x]).flatten ++ rs))) :
    (plH r b G)[3 + j]? = some (.cells ((now.map fun x => [I x]).flatten ++ rs)) := by
  rw [List.getElem?_append_right (by simp)]; simpa using h
theorem sz1 (now : List Int) : ∀ q ∈ now.map (fun x => [I x]), q.length = 1 := fun q hq => by obtain ⟨x, _, rfl⟩ := List.mem_map.1 hq; rfl
theorem tell_now {r : Rg} (gB : RgB r) {a b : AV} {G : List AObj} {now : List Int} (hn : msP r now) (hl : now.length ≤ 1000) (h : NowI G a now) :
    AQuiet Tryz.prog 124 [rgA r, a] (plH r b G) (.tup [I ((twA r now).1 : Nat), I ((twA r now).2 : Nat), B (!enough r now)]) := by
  have base := twins_pure gB hn (by omega)
  rcases h with ⟨rfl, rfl⟩ | ⟨j, cap, rs, rfl, hj, hrs, hle⟩
  · exact (AQuiet.of_pure base _).less ⟨jz, less_nil 1, trivial⟩
  · exact AQuiet.lend (sz := 1) base rfl (.cons (Fz.same _) (.cons Fz.frozen .nil)) (now_obj hj) (by simp) (sz1 now)
section app
variable {c : Ctx} {ops : Array Oper} {Q : AExit → St → Prop} {rest : List Oper} {i : Nat} {sl : List (Nat × AV)} {df : List ADef}
variable {d : Option Tmp} {t : TypeId} {pp : String} {af : Array Edge}
theorem sq_now_append {r : Rg} {a b : AV} {G : List AObj} {now : List Int} {u v : Operand} {n : Int} (hP : c.P = Tryz.prog) (hd : dOK c.nt d = true) (hl : now.length ≤ 1000) (h : NowI G a now)
    (hx : Less ((⟨sl, plH r b G, df⟩ : St).op u) a) (hy : Less ((⟨sl, plH r b G, df⟩ : St).op v) (.sl 1 [[I n]]))
    (k : ∀ a' G', NowI G' a' (now ++ [n]) → SeqWP c ops Q (i + 1) rest (St.put ⟨sl, plH r b G', df⟩ d a')) :
    SeqWP c ops Q i (⟨d, .call ⟨.builtin .append, #[u, v], #[28, 28]⟩, t, pp, af, none⟩ :: rest) ⟨sl, plH r b G, df⟩ := by
  have hlen : (plH r b G).length = 3 + G.length := by simp [plH]; omega
  rcases h with ⟨rfl, rfl⟩ | ⟨j, cap, rs, rfl, hj, hrs, hle⟩
  · refine sq_append_msl (xs := [[I n]]) hd (by rw [hP]; exact sf28.h) (by rw [hP]; exact Tryz.underlying28) (hx.trans (less_nilx 1)) hy (by simp) (by simp) (by simp) fun cap hcap => ?_
    rw [hlen]
    have e1 : plH r b G ++ [.cells ([[I n]].flatten ++ List.replicate ((cap - [[I n]].length) * 1) .any)] = plH r b (G ++ [.cells ([[I n]].flatten ++ List.replicate ((cap - [[I n]].length) * 1) .any)]) := by simp [plH]
    rw [e1]
    refine k _ _ (.inr ⟨G.length, cap, List.replicate ((cap - 1) * 1) .any, rfl, ?_, ?_, ?_⟩)
    · simp
    · simp
    · simpa using hcap
  · have ho := now_obj (r := r) (b := b) hj
    refine sq_append_m (es := now.map fun x => [I x]) (xs := [[I n]]) (rs := rs) hd (by rw [hP]; exact sf28.h) (by rw [hP]; exact Tryz.underlying28) hx ho (by simp) (sz1 now) hrs hy (by simp; omega) (by simp; omega) (fun hfit => ?_) (fun cap' hcap => ?_)
    · have e1 : (plH r b G).set (3 + j) (.cells ((now.map (fun x => [I x]) ++ [[I n]]).flatten ++ rs.drop ([[I n]].length * 1))) =
          plH r b (G.set j (.cells ((now.map (fun x => [I x]) ++ [[I n]]).flatten ++ rs.drop ([[I n]].length * 1)))) := by
        unfold plH
        rw [List.set_append_right _ _ (by simp)]; congr 2; simp
      simp only [e1]
      refine k _ _ (.inr ⟨j, cap, rs.drop 1, ?_, ?_, ?_, ?_⟩)
      · simp
      · rw [List.getElem?_set_self (lt_of_get? hj)]; simp
      · simp only [List.length_drop, List.length_append, List.length_singleton, hrs]; omega
      · simpa using hfit
    · rw [hlen]
      have e1 : plH r b G ++ [.cells ((now.map (fun x => [I x]) ++ [[I n]]).flatten ++ List.replicate ((cap' - (now.length + [[I n]].length)) * 1) .any)] =
          plH r b (G ++ [.cells ((now.map (fun x => [I x]) ++ [[I n]]).flatten ++ List.replicate ((cap' - (now.length + [[I n]].length)) * 1) .any)]) := by simp [plH]
      rw [e1]
      refine k _ _ (.inr ⟨G.length, cap', List.replicate ((cap' - (now.length + 1)) * 1) .any, ?_, ?_, ?_, ?_⟩)
      · simp
      · simp
      · simp
      · simpa using hcap
theorem sq_now {r : Rg} {a b : AV} {G : List AObj} {l : List Int} (t : Nat) (h : NowI G a l) (ht : sget sl t = a) {ro : List Oper} (k : ∀ H', SeqWP c ops Q i ro ⟨[(t, ints l)], H', df⟩) : SeqWP c ops Q i ro ⟨sl, plH r b G, df⟩ := by
  rcases h with ⟨rfl, rfl⟩ | ⟨j, cap, rs, rfl, hj, hrs, hle⟩
  · refine sq_sub (Sub.slots (sl' := [(t, ints [])]) ⟨?_, trivial⟩) (k _)
    rw [ht]; exact less_nil 1
  · exact sq_sub (sub_freezeK [] t (es := l.map fun x => [I x]) (rest := rs) ht (now_obj hj) (by simp) (sz1 l)) (k _)
end app
def SR (r : Rg) (many : Nat) (now : List Int) (frm : Nat) : ARes → List AObj → Prop := fun y H' =>
  ∃ b a' G', y = .ret (B b) ∧ H' = plH r a' G' ∧ (b = true → ∃ l, plan (enough r) many ((every r.kinds.length).drop frm) now = some l ∧ NowI G' a' l) ∧ (b = false → plan (enough r) many ((every r.kinds.length).drop frm) now = none ∧ NowI G' a' now)
theorem plan_cons {ok : List Int → Bool} {many : Nat} {c : Int} {cs now : List Int} : plan ok (many + 1) (c :: cs) now = match plan ok many cs (now ++ [c]) with | some l => some l | none => plan ok (many + 1) cs now := by rw [plan]; cases plan ok many cs (now ++ [c]) <;> rfl
theorem every_get {n i : Nat} (h : i < (every n).length) : (every n)[i] = (i : Int) := by simp [every]
theorem msP_snoc {r : Rg} {now : List Int} {m : Nat} (h : msP r now) (hm : m < r.kinds.length) : msP r (now ++ [(m : Int)]) := fun x hx => by
  rcases List.mem_append.1 hx with q | q
  · exact h x q
  · rw [List.mem_singleton] at q; subst q; omega
theorem search_step {r : Rg} (gB : RgB r) (many : Nat) (ih : ∀ mm, many = mm + 1 → ∀ (now : List Int) (frm : Nat) (a : AV) (G : List AObj), msP r now → now.length + mm ≤ 100 → frm ≤ r.kinds.length → NowI G a now → ACall Tryz.prog 127 [I frm, I mm, .iptr (rgC r), .ptr 1 0, .ptr 2 0] (plH r a G) (SR r mm now frm)) (now : List Int) (frm : Nat) (a : AV) (G : List AObj) (hmem : msP r now) (hlen : now.length + many ≤ 100) (hfr : frm ≤ r.kinds.length) (hnow : NowI G a now) : ACall Tryz.prog 127 [I frm, I many, .iptr (rgC r), .ptr 1 0, .ptr 2 0] (plH r a G) (SR r many now frm) := by
  refine acall_of (rs := [.tmp 7]) Tryz.func127 rfl rfl (Nat.le_of_ble_eq_true rfl) fun e0 he0 => ?_
  refine wz 3 ?_
  refine iz (fun c_13 c_13' => ?_) (fun c_13 c_13' => ?_)
  ·obtain rfl : many = 0 := by omega
   refine wz 2 ?_
   refine sq_ev rfl (ev_callQ en124.h jz (tell_now gB hmem (by omega) hnow) ⟨jz, jz, trivial⟩) ?_
   refine vz 10 ?_
   refine sq_nil (aw_ret ?_)
   refine ⟨rfl, B (!(!enough r now)), rfl, enough r now, a, G, by rw [Bool.not_not], rfl, fun h => ⟨now, by rw [plan, if_pos h], hnow⟩, fun h => ⟨by rw [plan, if_neg (by rw [h]; simp)], hnow⟩⟩
  obtain ⟨mm, rfl⟩ : ∃ mm, many = mm + 1 := ⟨many - 1, by omega⟩
  refine wz 2 ?_
  refine aw_loopk (ι := { g : Nat × AV × List AObj // (frm ≤ g.1 ∧ g.1 ≤ r.kinds.length) ∧ NowI g.2.2 g.2.1 now ∧ plan (enough r) (mm + 1) ((every r.kinds.length).drop frm) now = plan (enough r) (mm + 1) ((every r.kinds.length).drop g.1) now }) [1, 2, 3, 4] (fun g => [(11, I g.1.1)]) (fun H g => plH r g.1.2.1 g.1.2.2) (fun g => r.kinds.length - g.1.1) (⟨(frm, a, G), ⟨Nat.le_refl _, hfr⟩, hnow, rfl⟩) ⟨jz, jz, jz, jz, jz, trivial⟩ rfl ?_
  rintro ⟨⟨i, a, G⟩, hi, hnow, heq⟩
  refine nz ?_
  dsimp only at hi hnow heq
  have hnk := gB.nk
  refine wz 5 ?_
  refine iz (fun c_28 c_28' => ?_) (fun c_28 c_28' => ?_)
  ·have hil : i < r.kinds.length := by omega
   have hdrop : (every r.kinds.length).drop i = (i : Int) :: (every r.kinds.length).drop (i + 1) := by rw [List.drop_eq_getElem_cons (by rw [every_len]; exact hil), every_get]
   refine wz 2 ?_
   refine sq_ev rfl (ev_buildSlice (es := [[_]]) sf28.h rfl rfl rfl rfl) ?_
   refine sq_now_append (r := r) (a := a) (b := a) (G := G) (now := now) (n := (i : Int)) ?_ ?_ (by omega) hnow ?_ ?_ fun a' G' hnow' => ?_
   ·rfl
   ·rfl
   ·exact jz
   ·exact less_slx _ _
   refine sq_store (j := 1) (off := 0) rfl jz jz (now_cells hnow') rfl ty28.h rfl rfl ?_
   refine wz 5 ?_
   refine sq_call (f := 127) (first := []) (cap := [.iptr (rgC r), .ptr 1 0, .ptr 2 0]) (args := [I ((i + 1 : Nat) : Int), I mm, .iptr (rgC r), .ptr 1 0, .ptr 2 0]) rfl en127.h jz ⟨less_int (by simp), less_int (by omega), jz, jz, jz, trivial⟩ (ih mm rfl (now ++ [(i : Int)]) (i + 1) a' G' (msP_snoc hmem hil) (by simp; omega) (by omega) hnow') ?_ (by rintro v H' ⟨b, a', G', h, _⟩; cases h)
   rintro _ _ ⟨b, a2, G2, h, rfl, hT, hF⟩; cases h
   refine wz 0 ?_
   refine iz (fun c_40 c_40' => ?_) (fun c_40 c_40' => ?_)
   ·refine vz 1 ?_
    refine sq_nil (aw_ret ?_)
    obtain ⟨l2, hp, hn2⟩ := hT (by simpa using c_40)
    exact ⟨rfl, B true, rfl, true, a2, G2, rfl, rfl, fun _ => ⟨l2, by rw [heq, hdrop, plan_cons, hp], hn2⟩, (fun h => by cases h)⟩
   refine aw_skip ?_
   have hF2 := hF (by simpa using c_40)
   obtain ⟨hp0, hnow2⟩ := hF2
   have hF2 := hF (by simpa using c_40)
   rcases hnow2 with ⟨_, h0⟩ | ⟨j, cap, rs, rfl, hj, hrs, hcap⟩
   ·simp at h0
   rw [List.length_append, List.length_singleton] at hrs hcap
   refine wz 2 ?_
   refine sq_ev rfl (ev_len_msl sl28.h jz) ?_
   refine sq_ev rfl (ev_sub (q := (now.length : Int)) jz jz (by rw [wr (by simp <;> omega) (by simp <;> omega)]; simp)) ?_
   refine sq_ev rfl (ev_slice_msl (hi := now.length) sl28.h jz jz (by omega)) ?_
   refine vz 4 ?_
   refine sq_nil ?_
   refine ⟨⟨(i + 1, .msl (3 + j) 0 now.length cap, G2), ⟨by simp only; omega, by simp only; omega⟩, .inr ⟨j, cap, I i :: rs, rfl, by rw [hj]; simp, by simp only [List.length_cons, hrs]; omega, by omega⟩, by rw [heq, hdrop, plan_cons, hF2.1]⟩, by simp only; omega, ?_⟩
   refine Sub.slots ?_
   exact ⟨(by exact less_int (by simp <;> omega)), jz, jz, jz, jz, trivial⟩
  obtain rfl : i = r.kinds.length := by omega
  refine wz 1 ?_
  exact ⟨rfl, B false, rfl, false, a, G, rfl, rfl, (fun h => by cases h), fun _ => ⟨by rw [heq]; rw [List.drop_of_length_le (by rw [every_len]; exact Nat.le_refl _), plan], hnow⟩⟩
theorem search_call {r : Rg} (gB : RgB r) : ∀ (many : Nat) (now : List Int) (frm : Nat) (a : AV) (G : List AObj), msP r now → now.length + many ≤ 100 → frm ≤ r.kinds.length → NowI G a now → ACall Tryz.prog 127 [I frm, I many, .iptr (rgC r), .ptr 1 0, .ptr 2 0] (plH r a G) (SR r many now frm) := by
  intro many
  induction many with
  | zero => exact search_step gB 0 (fun mm h => by omega)
  | succ k ih => exact search_step gB (k + 1) (fun mm h => by cases h; exact ih)
theorem plan_ok {r : Rg} (hk : r.kinds.length ≤ 1000000) (hh : r.hides.length ≤ 1000000) (hw : ∀ h ∈ r.hides, h.length ≤ 1000000) (ho : rgOK r = true) {l : List Int} (hpl : planOf r = some l) : APure Tryz.prog 68 [rgA r] (.tup [ints l, I 0]) := by
  refine ap Tryz.func68 (fun e0 he0 => ?_)
  refine vz 3 ?_
  refine sq_nil ?_
  refine aw_seq ?_
  refine aw_seq ?_
  have gB := rgOK_B ho
  have hnk := gB.nk
  refine wz 1 ?_
  refine kz az (isregister_pure r hk hh hw) ?_
  refine wz 1 ?_
  refine iz (fun c_9 c_9' => ?_) (fun c_9 c_9' => ?_)
  ·exfalso
   simp_all
  refine vz 2 ?_
  refine sq_nil ?_
  refine aw_seq ?_
  refine aw_sub (sub_iptrK [4, 5] 1 (j := 0) (l := rgC r) rfl rfl) ?_
  refine nz ?_
  refine wz 7 ?_
  refine aw_loopk (ι := { g : Nat × AV × List AObj // g.1 ≤ r.kinds.length + 1 ∧ NowI g.2.2 g.2.1 [] ∧ ∀ m, m < g.1 → plan (enough r) m (every r.kinds.length) [] = none }) [4, 5, 14] (fun g => [(15, I g.1.1)]) (fun H g => plH r g.1.2.1 g.1.2.2) (fun g => r.kinds.length + 1 - g.1.1) (⟨(0, .raw (.slice none 0 0), []), Nat.zero_le _, .inl ⟨rfl, rfl⟩, by omega⟩) ⟨jz, jz, jz, jz, trivial⟩ rfl ?_
  rintro ⟨⟨m, a, G⟩, hm, hnow, hno⟩
  refine nz ?_
  dsimp only at hm hnow hno
  refine wz 1 ?_
  refine iz (fun c_16 c_16' => ?_) (fun c_16 c_16' => ?_)
  ·have hml : m < r.kinds.length + 1 := by omega
   refine wz 4 ?_
   refine sq_call (f := 127) (first := []) (cap := [.iptr (rgC r), .ptr 1 0, .ptr 2 0]) (args := [I ((0 : Nat) : Int), I m, .iptr (rgC r), .ptr 1 0, .ptr 2 0]) rfl en127.h jz ⟨jz, jz, jz, jz, jz, trivial⟩ (search_call gB m [] 0 a G (by intro n hn; cases hn) (by simp; omega) (Nat.zero_le _) hnow) ?_ (by rintro v H' ⟨b, a', G', h, _⟩; cases h)
   rintro _ _ ⟨b, a2, G2, h, rfl, hT, hF⟩; cases h
   refine wz 0 ?_
   refine iz (fun c_20 c_20' => ?_) (fun c_20 c_20' => ?_)
   ·obtain ⟨l2, hp, hn2⟩ := hT (by simpa using c_20)
    rw [List.drop_zero] at hp
    have hpl2 : planOf r = some l2 := findSome_range hml hp hno
    rw [hpl2] at hpl
    obtain rfl : l2 = l := Option.some.inj hpl
    refine wz 1 ?_
    refine sq_now (r := r) (b := a2) (G := G2) 21 hn2 rfl fun H9 => ?_
    refine sq_ev rfl (ev_as (v := .sl _ _) jz) ?_
    refine wz 1 ?_
    exact retQ_pure (v := .tup [.sl _ _, .raw _]) rfl rfl (less_tup ⟨jz, jz, trivial⟩)
   rw [List.drop_zero] at hF
   refine vz 2 ?_
   refine sq_nil ?_
   refine ⟨⟨(m + 1, a2, G2), by simp only; omega, (hF (by simpa using c_20)).2, fun q hq => (by by_cases e : q = m; (subst e; exact (hF (by simpa using c_20)).1); exact hno q (by simp only at hq; omega))⟩, by simp only; omega, ?_⟩
   refine Sub.slots ?_
   exact ⟨jz, jz, jz, jz, trivial⟩
  obtain rfl : m = r.kinds.length + 1 := by omega
  exfalso
  have : planOf r = none := List.findSome?_eq_none_iff.2 fun j hj => hno j (List.mem_range.1 hj)
  rw [this] at hpl; cases hpl
end Go.Proofs.YtjpokekbjmdgmaaGreatDoor
namespace Go.Proofs.YtjpokekbjmdgmaaGreatDoor
open Go Go.Ab Ni Hd
def methOfS (P : Program) (t : TypeId) (name : String) : Option FuncId :=
  match P.info? t, P.underlying t with
  | some i, some (.slice _) => match i.methods.find? (·.name == name) with
    | some m => match m.path.isEmpty, m.func with
      | true, some (f, false) => some f
      | _, _ => none
    | none => none
  | _, _ => none
theorem run_methodS {P : Program} {t : TypeId} {name : String} {f : FuncId} (h : methOfS P t name = some f) (n : Nat) (v : Value) (w : World) : (method (n + 1) t v name).run P w = .ok (f, v) w := by
  unfold methOfS at h
  split at h
  · rename_i i fs hi hu
    split at h
    · rename_i m hm
      split at h
      · rename_i f' hp hf
        simp only [Option.some.injEq] at h; subst h
        have hp' : m.path = #[] := by simpa using hp
        simp [method, typeInfo, hi, hm, hp', follow, hf, receiverAt, run_und hu, Place.get]
      · cases h
    · cases h
  · cases h
section ops
variable [Tabs]
variable {P : Program} {r : Option Nat} {H : List AObj} {ρ : Operand → AV}
variable {d : Option Tmp} {t : TypeId} {p : String} {af : Array Edge} {g : Option (Nat × Bool)}
theorem ev_invokeS {x : Operand} {name : String} {ats : Array TypeId} {dt : TypeId} {f : FuncId} {a res : AV} (hm : methOfS P dt name = some f) (he : Ent P f) (hx : Less (ρ x) (.ifc dt a)) (hc : APure P f [a] res) :
    Ev P r ⟨d, .call ⟨.invoke x name, #[], ats⟩, t, p, af, g⟩ H ρ res := by
  intro e ac next Q' ok hH hs hn
  have hxr := hx e _ (hs x (by simp [Op.operands, Call.operands]))
  rw [Rep] at hxr
  obtain ⟨u, hu, hr⟩ := hxr
  refine ⟨about_FW _ _ _ _ _, ?_⟩
  show Oper.uponIn (FW r) 0 P _ ac next Q' (((Oper.semAt r ac.eval ⟨d, .call ⟨.invoke x name, #[], ats⟩, t, p, af, g⟩)).run P e.w)
  have hrun : (execOp ac.eval ⟨d, .call ⟨.invoke x name, #[], ats⟩, t, p, af, g⟩).run P e.w = .ok (.enter f #[u]) e.w := by
    have hmr := run_methodS hm (P.types.size + 99) u e.w
    have e1 : P.types.size + Made.depth = (P.types.size + 99) + 1 := rfl
    simp only [execOp, resolve, hu]
    simp [invoke, callMethod, run_program, e1, hmr, he #[u] e.w]
  rw [semAt_of (by intro c h; cases h), hrun]
  refine ⟨fun h => by simp [FW] at h, ?_⟩
  have := hc e #[u] ok (RepL.cons hr RepL.nil)
  refine CallsIn.mono (F := FW r) (n := 0) this ?_
  rintro x w' ⟨u, e', rfl, rfl, hxt, hu⟩
  exact hn u e' hxt hu
end ops
instance ar220 : ArE Tryz.prog 220 3 9 1 := ⟨by kernel_rfl⟩
instance bi220 : BdI Tryz.prog 220 [.raw (.string ByteArray.empty), .raw (.string ByteArray.empty), .raw (.string ByteArray.empty)] false [] 1 := ⟨by kernel_rfl⟩
instance en149 : EnT Tryz.prog 149 := ⟨Ent.of Tryz.func149 (by kernel_rfl) rfl⟩
instance en150 : EnT Tryz.prog 150 := ⟨Ent.of Tryz.func150 (by kernel_rfl) rfl⟩
instance en155 : EnT Tryz.prog 155 := ⟨Ent.of Tryz.func155 (by kernel_rfl) rfl⟩
instance en169 : EnT Tryz.prog 169 := ⟨Ent.of Tryz.func169 (by kernel_rfl) rfl⟩
instance en170 : EnT Tryz.prog 170 := ⟨Ent.of Tryz.func170 (by kernel_rfl) rfl⟩
instance en238 : EnT Tryz.prog 238 := ⟨Ent.of Tryz.func238 (by kernel_rfl) rfl⟩
instance en239 : EnT Tryz.prog 239 := ⟨Ent.of Tryz.func239 (by kernel_rfl) rfl⟩
instance en240 : EnT Tryz.prog 240 := ⟨Ent.of Tryz.func240 (by kernel_rfl) rfl⟩
instance en241 : EnT Tryz.prog 241 := ⟨Ent.of Tryz.func241 (by kernel_rfl) rfl⟩
instance fo194_0 : FoF Tryz.prog 194 0 0 27 := ⟨by kernel_rfl⟩
theorem mt194 : methOf Tryz.prog 194 "kelir/hide.words" = some 238 := by kernel_rfl
theorem mt195 : methOfS Tryz.prog 195 "kelir/hide.words" = some 240 := by kernel_rfl
theorem mt197 : methOfS Tryz.prog 197 "kelir/hide.words" = some 241 := by kernel_rfl
instance ni195 : NiF Tryz.prog 195 := ⟨by kernel_rfl⟩
instance ni197 : NiF Tryz.prog 197 := ⟨by kernel_rfl⟩
instance sf164 : SlS Tryz.prog 164 9 1 16 := ⟨SlFact.of (by kernel_rfl)⟩
instance sl164 : SlE Tryz.prog 164 9 1 := ⟨by kernel_rfl⟩
instance sl195 : SlE Tryz.prog 195 111 1 := ⟨by kernel_rfl⟩
instance ty220 : TyF Tryz.prog 220 true 3 := ⟨by kernel_rfl⟩
instance ty9 : TyF Tryz.prog 9 false 1 := ⟨by kernel_rfl⟩
instance ud164 : UnD Tryz.prog 164 (.slice 9) := ⟨Tryz.underlying164⟩
instance z195 : ZeO Tryz.prog 195 [.raw (.slice none 0 0)] := ⟨by kernel_rfl⟩
instance z197 : ZeO Tryz.prog 197 [.raw (.slice none 0 0)] := ⟨by kernel_rfl⟩
instance z220 : ZeO Tryz.prog 220 [.raw (.string ByteArray.empty), .raw (.string ByteArray.empty), .raw (.string ByteArray.empty)] := ⟨by kernel_rfl⟩
inductive Rw where
  | head
  | types
  | sizes (h : List Int)
abbrev rowV (r : Rg) : Rw → AV
  | .head => .ifc 194 (.agg (rgC r))
  | .types => .ifc 195 (ints r.kinds)
  | .sizes h => .ifc 197 (ints h)
def rowW (r : Rg) : Rw → List (List UInt8)
  | .head => wordsOf (l6 r)
  | .types => r.kinds.map kdW
  | .sizes h => wordsOf h
def nameW : Rw → List UInt8
  | .head => wReg
  | .types => wMea
  | .sizes _ => wHid
def lineO (r : Rg) (q : Rw) : List UInt8 := Lib.join (nameW q :: rowW r q) [32]
theorem itoa_pure (n : Int) (h0 : -9223372036854775808 ≤ n) (h1 : n ≤ 9223372036854775807) : APure Tryz.prog 150 [I n] (S (Lib.itoa n)) :=
  apure_of_calls (vs := [.int .i64 n]) fun w hw => (Tryz.strconv_Itoa n h0 h1 w hw.2).mono fun _ _ ⟨h1, k, os, h2⟩ => ⟨h1, by rw [h2]; exact ⟨rfl, rfl⟩, os, by rw [h2]; rfl⟩
theorem data_list (l : List (List UInt8)) : (l.map fun r => (⟨r.toArray⟩ : ByteArray)).map (fun b => b.data.toList) = l := by
  rw [List.map_map]
  conv => rhs; rw [← List.map_id l]
  exact List.map_congr_left fun r _ => rfl
theorem join_pure (l : List (List UInt8)) (sep : List UInt8) (h1 : l.length ≤ 1000000) (h2 : (Lib.join l sep).length ≤ 1000000) : APure Tryz.prog 169 [strs l, S sep] (S (Lib.join l sep)) := by
  refine apure_of_strs (more := [.string ⟨sep.toArray⟩]) (fun hl a c w _ => ?_) fun bk o c w _ hc hb hle => ?_
  · subst hl
    refine (Tryz.strings_Join_none a c ⟨sep.toArray⟩ w).mono ?_
    rintro x w' ⟨rfl, rfl⟩
    exact ⟨rfl, Still.refl _, Nat.le_refl _, fun _ _ => rfl⟩
  · have hj : Lib.join ((l.map fun r => (⟨r.toArray⟩ : ByteArray)).map (·.data.toList)) (⟨sep.toArray⟩ : ByteArray).data.toList = Lib.join l sep := by rw [data_list]
    have := Tryz.strings_Join bk o c (l.map fun r => (⟨r.toArray⟩ : ByteArray)) ⟨sep.toArray⟩ w hc hb (by simp; omega) (by simpa using hle) (by rw [hj]; omega)
    rw [hj, List.length_map] at this
    refine this.mono ?_
    rintro x w' ⟨rfl, hB⟩
    exact ⟨rfl, ⟨hB.os, hB.output⟩, hB.size, hB.block⟩
theorem l6_sl (r : Rg) : Less (.slx 1 [[I r.off], [I r.mends], [I r.al], [I r.ah], [I r.bl], [I r.bh]]) (ints (l6 r)) := Less.trans (less_slx _ _) (Less.eq rfl)
theorem wordsOf_succ {l : List Int} {k : Nat} (h : k < l.length) : wordsOf (l.take (k + 1)) = wordsOf (l.take k) ++ [Lib.itoa l[k]] := by
  unfold wordsOf; rw [List.take_succ_eq_append_getElem h, List.map_append]; rfl
theorem kdW_succ {l : List Int} {k : Nat} (h : k < l.length) : (l.take (k + 1)).map kdW = (l.take k).map kdW ++ [kdW l[k]] := by
  rw [List.take_succ_eq_append_getElem h, List.map_append]; rfl
theorem names_pure  : APure Tryz.prog 170 [] (.agg [S wReg, S wMea, S wHid]) := by
  refine ap Tryz.func170 (fun e0 he0 => ?_)
  refine wz 3 ?_
  exact retQ_res (vs := [.agg _]) rfl rfl ⟨resVar_cell rfl rfl ty220.h rfl, trivial⟩ jz
theorem ways_pure  : APure Tryz.prog 155 [] (strs [wAlo, wAcr]) := by
  refine ap Tryz.func155 (fun e0 he0 => ?_)
  refine wz 1 ?_
  refine sq_ev rfl (ev_buildSlice (es := [[_], [_]]) sf164.h rfl rfl rfl rfl) ?_
  refine wz 1 ?_
  exact retQ_pure (v := .slx _ _) rfl rfl (Less.trans (less_slx _ _) (Less.eq rfl))
theorem told_pure (l : List Int) (hl : l.length ≤ 1000000) (hb : ∀ n ∈ l, -1000000 ≤ n ∧ n ≤ 1000000) : APure Tryz.prog 239 [ints l] (strs (wordsOf l)) := by
  refine ap Tryz.func239 (fun e0 he0 => ?_) (hr := by simp [AV.pureB])
  refine vz 5 ?_
  refine sq_nil ?_
  refine aw_block ?_
  refine aw_sub (sub_token 3 1 jz) ?_
  refine aw_loopk (ι := { k : Nat // k ≤ l.length }) [6, 7] (fun i => [(8, I i.1), (3, .own 0 1 ((wordsOf (l.take i.1)).map fun x => [S x]))]) (fun H i => H.set 0 (.tok ((wordsOf (l.take i.1)).map fun x => [S x]).length)) (fun i => l.length - i.1) (⟨0, Nat.zero_le _⟩) ⟨jz, jz, jz, jz, trivial⟩ rfl ?_
  rintro ⟨k, hk⟩
  refine nz ?_
  have hwl : (wordsOf (l.take k)).length ≤ 1000000 := by simp [wordsOf]; omega
  refine wz 1 ?_
  refine iz (fun c_9 c_9' => ?_) (fun c_9 c_9' => ?_)
  ·have hk6 : k < l.length := by omega
   have hb2 := hb _ (List.getElem_mem hk6)
   have eS : ((wordsOf (l.take (k + 1))).map fun x => [S x]) = ((wordsOf (l.take k)).map fun x => [S x]) ++ [[S (Lib.itoa l[k])]] := by rw [wordsOf_succ hk6, List.map_append]; rfl
   refine wz 5 ?_
   refine kz az (itoa_pure _ (by omega) (by omega)) ?_
   refine sq_ev rfl (ev_buildSlice (es := [[_]]) sf164.h rfl rfl rfl rfl) ?_
   first | refine sq_append rfl sf164.h Tryz.underlying164 rfl rfl jz (Nat.succ_pos _) (by simp; omega) (by simp; omega) ?_ | refine sq_append rfl sf164.h Tryz.underlying164 rfl rfl (less_slx _ _) (Nat.succ_pos _) (by simp; omega) (by simp; omega) ?_
   refine wz 3 ?_
   exact ⟨⟨k + 1, by omega⟩, by simp only; omega, sb 1 ⟨jz, Less.eq (by rw [eS] <;> rfl), jz, jz, trivial⟩ (hH := (congrArg (fun n => [AObj.tok n]) (congrArg List.length eS.symm)))⟩
  obtain rfl : k = l.length := by omega
  refine wz 2 ?_
  exact retQ_pure (v := .own _ _ _) rfl rfl (Less.trans (less_own _ _ _) (Less.eq (by rw [List.take_length])))
theorem headw_pure (r : Rg) (hb : ∀ n ∈ l6 r, -1000000 ≤ n ∧ n ≤ 1000000) : APure Tryz.prog 238 [.agg (rgC r)] (strs (wordsOf (l6 r))) := by
  refine ap Tryz.func238 (fun e0 he0 => ?_) (hr := by simp [AV.pureB])
  refine wz 24 ?_
  refine sq_ev rfl (ev_buildSlice (es := [[_], [_], [_], [_], [_], [_]]) sf28.h rfl rfl rfl rfl) ?_
  refine sq_ev rfl (ev_call en239.h jz (told_pure (l6 r) (by simp [l6]) hb) ⟨l6_sl r, trivial⟩) ?_
  refine wz 1 ?_
  exact retQ_pure (v := .sl _ _) rfl rfl jz
theorem typesw_pure (r : Rg) (hl : r.kinds.length ≤ 1000000) (hb : ∀ k ∈ r.kinds, k = 1 ∨ k = 2) : APure Tryz.prog 240 [ints r.kinds] (strs (r.kinds.map kdW)) := by
  refine ap Tryz.func240 (fun e0 he0 => ?_) (hr := by simp only [AV.pureB]; exact pureE_map fun x _ => rfl)
  refine vz 5 ?_
  refine sq_nil ?_
  refine aw_block ?_
  refine aw_sub (sub_token 3 1 jz) ?_
  refine aw_loopk (ι := { k : Nat // k ≤ r.kinds.length }) [6, 7] (fun i => [(8, I i.1), (3, .own 0 1 (((r.kinds.take i.1).map kdW).map fun x => [S x]))]) (fun H i => H.set 0 (.tok (((r.kinds.take i.1).map kdW).map fun x => [S x]).length)) (fun i => r.kinds.length - i.1) (⟨0, Nat.zero_le _⟩) ⟨jz, jz, jz, jz, trivial⟩ rfl ?_
  rintro ⟨k, hk⟩
  refine nz ?_
  refine wz 1 ?_
  refine iz (fun c_9 c_9' => ?_) (fun c_9 c_9' => ?_)
  ·have hk6 : k < r.kinds.length := by omega
   have hb2 := hb _ (List.getElem_mem hk6)
   have eS : ((((r.kinds.take (k + 1)).map kdW)).map fun x => [S x]) = ((((r.kinds.take k).map kdW)).map fun x => [S x]) ++ [[S (kdW r.kinds[k])]] := by rw [kdW_succ hk6, List.map_append]; rfl
   refine wz 4 ?_
   refine kz az (ways_pure) ?_
   refine wz 1 ?_
   refine kz az (kind_pure _ (by omega)) ?_
   refine sq_ev rfl (ev_index_map (k := (r.kinds[k] - 1).toNat) (xs := [wAlo, wAcr]) sl164.h jz jz (by omega) (by simp only [List.length_cons, List.length_nil]; omega)) ?_
   refine sq_ev rfl (ev_less (ev_load_i jz ty9.h rfl) (Less.eq (b := S (kdW r.kinds[k])) (by rcases hb2 with e | e <;> simp [e, kdW]))) ?_
   refine sq_ev rfl (ev_buildSlice (es := [[_]]) sf164.h rfl rfl rfl rfl) ?_
   first | refine sq_append rfl sf164.h Tryz.underlying164 rfl rfl jz (Nat.succ_pos _) (by simp; omega) (by simp; omega) ?_ | refine sq_append rfl sf164.h Tryz.underlying164 rfl rfl (less_slx _ _) (Nat.succ_pos _) (by simp; omega) (by simp; omega) ?_
   refine wz 3 ?_
   exact ⟨⟨k + 1, by omega⟩, by simp only; omega, sb 1 ⟨jz, Less.eq (by rw [eS] <;> rfl), jz, jz, trivial⟩ (hH := (congrArg (fun n => [AObj.tok n]) (congrArg List.length eS.symm)))⟩
  obtain rfl : k = r.kinds.length := by omega
  refine wz 2 ?_
  exact retQ_pure (v := .own _ _ _) rfl rfl (Less.trans (less_own _ _ _) (Less.eq (by rw [List.take_length])))
theorem sizesw_pure (l : List Int) (hl : l.length ≤ 1000000) (hb : ∀ n ∈ l, -1000000 ≤ n ∧ n ≤ 1000000) : APure Tryz.prog 241 [ints l] (strs (wordsOf l)) := by
  refine ap Tryz.func241 (fun e0 he0 => ?_) (hr := by simp [AV.pureB])
  refine wz 2 ?_
  refine kz az (told_pure l hl hb) ?_
  refine wz 1 ?_
  exact retQ_pure (v := .sl _ _) rfl rfl jz
theorem lineH_pure (r : Rg) (hb : ∀ n ∈ l6 r, -1000000 ≤ n ∧ n ≤ 1000000) (hj : (lineO r .head).length ≤ 1000000) (hn : (rowW r .head).length ≤ 100000) : APure Tryz.prog 149 [rowV r .head] (S (lineO r .head)) := by
  refine ap Tryz.func149 (fun e0 he0 => ?_) (hp := by simp [AV.pureL, AV.pureB, AV.pureE, pureE_map])
  refine vz 1 ?_
  refine sq_nil ?_
  refine aw_seq ?_
  have hn2 := hn
  simp only [rowW] at hn2
  refine wz 2 ?_
  refine sq_ev rfl (ev_assert_no ni195.h z195.h rfl jz) ?_
  refine wz 3 ?_
  refine sq_ev rfl (ev_assert_no ni197.h z197.h rfl jz) ?_
  refine wz 3 ?_
  refine aw_draw 9 mo (by kernel_rfl) ?_
  refine dkz az (names_pure) ?_
  refine dz 1 ?_
  refine dr_ev rfl (ev_indexv (k := 0) ar220.h ty9.h jz jz rfl (by decide) rfl) ?_
  refine dr_ev rfl (ev_buildSlice (es := [[_]]) sf164.h rfl rfl rfl rfl) ?_
  refine dz 1 ?_
  refine dr_ev rfl (ev_invoke mt194 en238.h jz (headw_pure r hb)) ?_
  refine dr_ev rfl (ev_append sf164.h Tryz.underlying164 jz jz (by simp <;> omega) (by simp <;> omega)) ?_
  refine dkz az (join_pure (nameW .head :: rowW r .head) [32] (by simp only [List.length_cons]; omega) hj) ?_
  refine dz 1 ?_
  refine wz 0 ?_
  exact rz rfl jz
theorem lineT_pure (r : Rg) (hl : r.kinds.length ≤ 1000000) (hb : ∀ k ∈ r.kinds, k = 1 ∨ k = 2) (hj : (lineO r .types).length ≤ 1000000) (hn : (rowW r .types).length ≤ 100000) : APure Tryz.prog 149 [rowV r .types] (S (lineO r .types)) := by
  refine ap Tryz.func149 (fun e0 he0 => ?_) (hp := by simp [AV.pureL, AV.pureB, AV.pureE, pureE_map])
  refine vz 1 ?_
  refine sq_nil ?_
  refine aw_seq ?_
  have hn2 := hn
  simp only [rowW, List.length_map] at hn2
  refine wz 2 ?_
  refine sq_ev rfl (ev_assert_yes ni195.h jz) ?_
  refine wz 4 ?_
  refine aw_draw 9 mo (by kernel_rfl) ?_
  refine dkz az (names_pure) ?_
  refine dz 1 ?_
  refine dr_ev rfl (ev_indexv (k := 1) ar220.h ty9.h jz jz rfl (by decide) rfl) ?_
  refine dr_ev rfl (ev_buildSlice (es := [[_]]) sf164.h rfl rfl rfl rfl) ?_
  refine dz 1 ?_
  refine dr_ev rfl (ev_invokeS mt195 en240.h jz (typesw_pure r hl hb)) ?_
  refine dr_ev rfl (ev_append sf164.h Tryz.underlying164 jz jz (by simp <;> omega) (by simp <;> omega)) ?_
  refine dkz az (join_pure (nameW .types :: rowW r .types) [32] (by simp only [List.length_cons]; omega) hj) ?_
  refine dz 1 ?_
  refine wz 0 ?_
  exact rz rfl jz
theorem lineS_pure (r : Rg) (h : List Int) (hl : h.length ≤ 1000000) (hb : ∀ n ∈ h, -1000000 ≤ n ∧ n ≤ 1000000) (hj : (lineO r (.sizes h)).length ≤ 1000000) (hn : (rowW r (.sizes h)).length ≤ 100000) : APure Tryz.prog 149 [rowV r (.sizes h)] (S (lineO r (.sizes h))) := by
  refine ap Tryz.func149 (fun e0 he0 => ?_) (hp := by simp [AV.pureL, AV.pureB, AV.pureE, pureE_map])
  refine vz 1 ?_
  refine sq_nil ?_
  refine aw_seq ?_
  have hn2 := hn
  simp only [rowW] at hn2
  refine wz 2 ?_
  refine sq_ev rfl (ev_assert_no ni195.h z195.h rfl jz) ?_
  refine wz 3 ?_
  refine sq_ev rfl (ev_assert_yes ni197.h jz) ?_
  refine wz 4 ?_
  refine aw_draw 9 mo (by kernel_rfl) ?_
  refine dkz az (names_pure) ?_
  refine dz 1 ?_
  refine dr_ev rfl (ev_indexv (k := 2) ar220.h ty9.h jz jz rfl (by decide) rfl) ?_
  refine dr_ev rfl (ev_buildSlice (es := [[_]]) sf164.h rfl rfl rfl rfl) ?_
  refine dz 1 ?_
  refine dr_ev rfl (ev_invokeS mt197 en241.h jz (sizesw_pure h hl hb)) ?_
  refine dr_ev rfl (ev_append sf164.h Tryz.underlying164 jz jz (by simp <;> omega) (by simp <;> omega)) ?_
  refine dkz az (join_pure (nameW (.sizes h) :: rowW r (.sizes h)) [32] (by simp only [List.length_cons]; omega) hj) ?_
  refine dz 1 ?_
  refine wz 0 ?_
  exact rz rfl jz
end Go.Proofs.YtjpokekbjmdgmaaGreatDoor
namespace Go.Proofs.YtjpokekbjmdgmaaGreatDoor
open Go Go.Ab Ni Hd
instance bi194 : BdI Tryz.prog 194 [.raw (.slice none 0 0), .raw (.slice none 0 0), .raw (.int .i64 0), .raw (.int .i64 0), .raw (.int .i64 0), .raw (.int .i64 0), .raw (.int .i64 0), .raw (.int .i64 0)] true [(0, 8)] 0 := ⟨by kernel_rfl⟩
instance en115 : EnT Tryz.prog 115 := ⟨Ent.of Tryz.func115 (by kernel_rfl) rfl⟩
instance ni194 : NiF Tryz.prog 194 := ⟨by kernel_rfl⟩
instance sf196 : SlS Tryz.prog 196 199 1 16 := ⟨SlFact.of (by kernel_rfl)⟩
instance sl196 : SlE Tryz.prog 196 199 1 := ⟨by kernel_rfl⟩
instance ty199 : TyF Tryz.prog 199 false 1 := ⟨by kernel_rfl⟩
instance ud196 : UnD Tryz.prog 196 (.slice 199) := ⟨Tryz.underlying196⟩
def rowsT (r : Rg) (k : Nat) : List Rw := .head :: .types :: (r.hides.take k).map .sizes
def rowsB (r : Rg) : List Rw := rowsT r r.hides.length
theorem rowsT_succ {r : Rg} {k : Nat} (h : k < r.hides.length) : rowsT r (k + 1) = rowsT r k ++ [.sizes r.hides[k]] := by
  unfold rowsT; rw [List.take_succ_eq_append_getElem h, List.map_append]; rfl
theorem rowsT_len {r : Rg} {k : Nat} (h : k ≤ r.hides.length) : (rowsT r k).length = k + 2 := by simp [rowsT]; omega
theorem rowsB_mem {r : Rg} {q : Rw} (h : q ∈ rowsB r) : q = .head ∨ q = .types ∨ ∃ h ∈ r.hides, q = .sizes h := by
  rcases List.mem_cons.1 h with h | h
  · exact .inl h
  · rcases List.mem_cons.1 h with h | h
    · exact .inr (.inl h)
    · obtain ⟨x, hx, rfl⟩ := List.mem_map.1 h
      exact .inr (.inr ⟨x, List.mem_of_mem_take hx, rfl⟩)
theorem lines_rows (r : Rg) : (rowsB r).map (lineO r) = linesR r := by
  unfold rowsB rowsT linesR
  rw [List.take_length, List.map_cons, List.map_cons, List.map_map]; rfl
theorem line_pure {r : Rg} (sm : SmR r) {q : Rw} (h : q ∈ rowsB r) : APure Tryz.prog 149 [rowV r q] (S (lineO r q)) := by
  have hl := sm.line (lineO r q) (by rw [← lines_rows]; exact List.mem_map_of_mem h)
  rcases rowsB_mem h with rfl | rfl | ⟨f, hf, rfl⟩
  · exact lineH_pure r sm.head (by omega) (by simp [rowW, wordsOf, l6])
  · exact lineT_pure r (by have := sm.nk; omega) sm.kinds (by omega) (by have := sm.nk; simp [rowW]; omega)
  · exact lineS_pure r f (by have := (sm.hides f hf).1; omega) (sm.hides f hf).2 (by omega) (by have := (sm.hides f hf).1; simp [rowW, wordsOf]; omega)
@[simp] theorem inE_rows (n : Nat) (r : Rg) (l : List Rw) : AV.inE n (l.map fun q => [rowV r q]) = true := inE_map fun x _ => by cases x <;> simp [rowV, AV.inL, AV.inB]
theorem decDigits_len : ∀ (m u : Nat), u < 10 ^ (m + 1) → (Lib.decDigits u).length ≤ m + 1
  | 0, u, h => by rw [Lib.decDigits, dif_pos (by simpa using h)]; simp
  | m + 1, u, h => by
    rw [Lib.decDigits]
    split
    · simp
    · rw [List.length_append]
      have : u / 10 < 10 ^ (m + 1) := by rw [Nat.pow_succ] at h; omega
      have := decDigits_len m (u / 10) this
      simp; omega
theorem itoa_len {n : Int} (h : -1000000 ≤ n ∧ n ≤ 1000000) : (Lib.itoa n).length ≤ 8 := by
  unfold Lib.itoa
  split
  · have := decDigits_len 6 n.natAbs (by omega)
    simp; omega
  · have := decDigits_len 6 n.toNat (by omega)
    omega
theorem text_pure {r : Rg} (sm : SmR r) : APure Tryz.prog 115 [rgA r] (S (textR r)) := by
  refine ap Tryz.func115 (fun e0 he0 => ?_)
  refine wz 8 ?_
  refine sq_ev rfl (ev_buildSlice (es := [[_], [_]]) sf196.h rfl rfl rfl rfl) ?_
  refine vz 5 ?_
  refine sq_nil ?_
  refine aw_block ?_
  refine aw_sub (sub_token_slx 3 1 jz) ?_
  refine aw_loopk (ι := { k : Nat // k ≤ r.hides.length }) [20, 21] (fun i => [(22, I i.1), (3, .own 1 1 ((rowsT r i.1).map fun q => [rowV r q]))]) (fun H i => H.set 1 (.tok ((rowsT r i.1).map fun q => [rowV r q]).length)) (fun i => r.hides.length - i.1) (⟨0, Nat.zero_le _⟩) ⟨jz, jz, jz, jz, trivial⟩ rfl ?_
  rintro ⟨k, hk⟩
  refine nz ?_
  have hrl := rowsT_len hk
  have hsl := sm.len
  refine wz 1 ?_
  refine iz (fun c_23 c_23' => ?_) (fun c_23 c_23' => ?_)
  ·have hk' : k < r.hides.length := by omega
   have eS : (rowsT r (k + 1)).map (fun q => [rowV r q]) = (rowsT r k).map (fun q => [rowV r q]) ++ [[.ifc 197 (ints r.hides[k])]] := by rw [rowsT_succ hk', List.map_append]; rfl
   refine wz 6 ?_
   refine sq_ev rfl (ev_buildSlice (es := [[_]]) sf196.h rfl rfl rfl rfl) ?_
   first | refine sq_append rfl sf196.h Tryz.underlying196 rfl rfl jz (Nat.succ_pos _) (by simp; omega) (by simp; omega) ?_ | refine sq_append rfl sf196.h Tryz.underlying196 rfl rfl (less_slx _ _) (Nat.succ_pos _) (by simp; omega) (by simp; omega) ?_
   refine wz 3 ?_
   exact ⟨⟨k + 1, by omega⟩, by simp only; omega, sb 2 ⟨jz, Less.eq (by rw [eS] <;> rfl), jz, jz, trivial⟩ (hH := (congrArg (fun n => [_, AObj.tok n]) (congrArg List.length eS.symm)))⟩
  obtain rfl : k = r.hides.length := by omega
  have hll0 : (linesR r).length = (rowsB r).length := by rw [← lines_rows, List.length_map]
  have hrl2 : (rowsB r).length = r.hides.length + 2 := rowsT_len (Nat.le_refl _)
  refine wz 3 ?_
  refine sq_ev rfl (ev_len_map sl196.h (less_own _ _ _)) ?_
  refine vz 1 ?_
  refine sq_nil ?_
  refine aw_block ?_
  have hfull : rowsT r r.hides.length = rowsB r := rfl
  rw [hfull]
  refine aw_loopk (ι := { i : Nat // i ≤ (rowsB r).length }) [32, 33] (fun i => [(34, I i.1), (6, S (outT (linesR r) i.1)), (7, I (ctT (linesR r) i.1))]) (fun H i => H) (fun i => (rowsB r).length - i.1) (⟨0, Nat.zero_le _⟩) ⟨jz, jz, jz, jz, jz, trivial⟩ rfl ?_
  rintro ⟨i, hi⟩
  refine nz ?_
  have hol := outT_len sm.line i (by omega)
  have hct := ctT_bd (by omega) sm.line i (by omega)
  refine wz 1 ?_
  refine iz (fun c_35 c_35' => ?_) (fun c_35 c_35' => ?_)
  ·have hi2 : i < (rowsB r).length := by omega
   have hi3 : i < (linesR r).length := by omega
   have hll := sm.line _ (List.getElem_mem hi3)
   have hle : (linesR r)[i] = lineO r (rowsB r)[i] := by simp only [← lines_rows, List.getElem_map]
   refine wz 1 ?_
   refine sq_ev rfl (ev_index_map sl196.h (less_own _ _ _) jz rfl (by omega)) ?_
   refine wz 2 ?_
   refine sq_ev rfl (ev_as (v := rowV r _) jz) ?_
   refine wz 0 ?_
   refine sq_ev rfl (ev_mv (v := rowV r _) jz) ?_
   refine sq_ev rfl (ev_less (ev_call en149.h jz (line_pure sm (List.getElem_mem hi2)) ⟨jz, trivial⟩) (Less.eq (b := S (linesR r)[i]) (by rw [hle]))) ?_
   refine wz 4 ?_
   refine aw_loopk (ι := { k : Nat // k ≤ (linesR r)[i].length }) [6, 8, 10, 32, 33, 34, 42] (fun k => [(43, I k.1), (7, I (ctT (linesR r) i + csT ((i : Int) + 1) (linesR r)[i] k.1))]) (fun H k => H) (fun k => (linesR r)[i].length - k.1) (⟨0, Nat.zero_le _⟩) ⟨jz, (by exact less_int (by simp [csT])), jz, jz, jz, jz, jz, jz, jz, trivial⟩ rfl ?_
   rintro ⟨k, hk⟩
   refine nz ?_
   have hcs := csT_bd (m := (i : Int) + 1) ⟨by omega, by omega⟩ (linesR r)[i] k hk hll
   refine wz 1 ?_
   refine iz (fun c_44 c_44' => ?_) (fun c_44 c_44' => ?_)
   ·have hk' : k < (linesR r)[i].length := by omega
    have htb := term_bd (b := (linesR r)[i][k]) (j := k) (m := (i : Int) + 1) (by omega) ⟨by omega, by omega⟩
    have hb8 : ((linesR r)[i][k]).toNat < 256 := UInt8.toNat_lt _
    have eK : ctT (linesR r) i + csT ((i : Int) + 1) (linesR r)[i] k + ((linesR r)[i][k].toNat : Int) * ((k : Int) + 1) * ((i : Int) + 1) = ctT (linesR r) i + csT ((i : Int) + 1) (linesR r)[i] (k + 1) := by rw [csT_succ _ hk']; omega
    refine wz 9 ?_
    refine sq_ev rfl (ev_mul jz jz (wr (by omega) (by omega))) ?_
    refine wz 2 ?_
    refine sq_ev rfl (ev_mul jz jz (wr (by omega) (by omega))) ?_
    refine wz 4 ?_
    exact ⟨⟨k + 1, by omega⟩, by simp only; omega, Sub.slots ⟨jz, (by exact less_int eK), jz, jz, jz, jz, jz, jz, jz, trivial⟩⟩
   obtain rfl : k = (linesR r)[i].length := by omega
   have eO : S (outT (linesR r) i ++ ((linesR r)[i] ++ [10])) = S (outT (linesR r) (i + 1)) := by rw [outT_succ hi3]
   have eC : ctT (linesR r) i + csT ((i : Int) + 1) (linesR r)[i] (linesR r)[i].length = ctT (linesR r) (i + 1) := by rw [ctT_succ hi3]; rfl
   refine wz 7 ?_
   exact ⟨⟨i + 1, by omega⟩, by simp only; omega, Sub.slots ⟨jz, Less.eq eO, (by exact less_int eC), jz, jz, trivial⟩⟩
  obtain rfl : i = (rowsB r).length := by omega
  refine wz 1 ?_
  refine sq_ev rfl (ev_less (ev_rem jz jz (by decide)) (less_int (Int.tmod_eq_emod_of_nonneg (by omega)))) ?_
  refine vz 1 ?_
  refine sq_nil ?_
  refine aw_seq ?_
  have i1 := itoa_len (n := ctT (linesR r) (rowsB r).length % 199 / 100) ⟨by omega, by omega⟩
  have i2 := itoa_len (n := ctT (linesR r) (rowsB r).length % 199 / 10 % 10) ⟨by omega, by omega⟩
  have i3 := itoa_len (n := ctT (linesR r) (rowsB r).length % 199 % 10) ⟨by omega, by omega⟩
  refine wz 3 ?_
  refine sq_ev rfl (ev_quo (q := ctT (linesR r) (rowsB r).length % 199 / 100) jz jz (by decide) (qd (by omega) (by omega) (by decide))) ?_
  refine kz az (itoa_pure _ (by omega) (by omega)) ?_
  refine wz 2 ?_
  refine sq_ev rfl (ev_quo (q := ctT (linesR r) (rowsB r).length % 199 / 10) jz jz (by decide) (qd (by omega) (by omega) (by decide))) ?_
  refine sq_ev rfl (ev_less (ev_rem jz jz (by decide)) (less_int (Int.tmod_eq_emod_of_nonneg (by omega)))) ?_
  refine kz az (itoa_pure _ (by omega) (by omega)) ?_
  refine wz 2 ?_
  refine sq_ev rfl (ev_less (ev_rem jz jz (by decide)) (less_int (Int.tmod_eq_emod_of_nonneg (by omega)))) ?_
  refine kz az (itoa_pure _ (by omega) (by omega)) ?_
  refine wz 3 ?_
  exact rz rfl (Less.eq (by simp [textR, sealR, digs3, hll0]))
end Go.Proofs.YtjpokekbjmdgmaaGreatDoor
namespace Go.Proofs.YtjpokekbjmdgmaaGreatDoor
open Go Go.Ab Ni Hd
instance bi184 : BdI Tryz.prog 184 [.raw (.string ByteArray.empty)] true [(0, 1)] 0 := ⟨by kernel_rfl⟩
instance en151 : EnT Tryz.prog 151 := ⟨Ent.of Tryz.func151 (by kernel_rfl) rfl⟩
instance en153 : EnT Tryz.prog 153 := ⟨Ent.of Tryz.func153 (by kernel_rfl) rfl⟩
instance en154 : EnT Tryz.prog 154 := ⟨Ent.of Tryz.func154 (by kernel_rfl) rfl⟩
instance en173 : EnT Tryz.prog 173 := ⟨Ent.of Tryz.func173 (by kernel_rfl) rfl⟩
instance ud21 : UnD Tryz.prog 21 (.int .i32) := ⟨Tryz.underlying21⟩
theorem split_pure (s : List UInt8) (c : UInt8) (hs : s.length ≤ 1000000) : APure Tryz.prog 151 [S s, S [c]] (strs (cut c s)) := by
  have hc := splitB_cut c s
  have hlen : (Lib.splitB ⟨#[c]⟩ 0 (Lib.countB ⟨s.toArray⟩ ⟨#[c]⟩) ⟨s.toArray⟩).length = Lib.countB ⟨s.toArray⟩ ⟨#[c]⟩ + 1 := Lib.splitB_all ⟨#[c]⟩ (Nat.le_refl 1) 0 _ _ rfl
  have h := apure_of_row (P := Tryz.prog) (f := 151) (vs := [.string ⟨s.toArray⟩, .string ⟨#[c]⟩]) (us := (Lib.splitB ⟨#[c]⟩ 0 (Lib.countB ⟨s.toArray⟩ ⟨#[c]⟩) ⟨s.toArray⟩).map Value.string) (et := 9)
    (fun u hu => by obtain ⟨x, _, rfl⟩ := List.mem_map.1 hu; rfl) (fun w hw => by
      obtain ⟨m0, m, hg, hm⟩ := hw.1
      have h0 : Tryz.prog.globalNamed "internal/bytealg.MaxLen" = some 1 := by kernel_rfl
      rw [h0] at hg; cases hg
      refine (Tryz.strings_Split ⟨s.toArray⟩ ⟨#[c]⟩ m w (by rw [bs_size]; omega) hm (Nat.le_refl 1)).mono ?_
      rintro x w' ⟨h1, h2⟩
      refine ⟨?_, by rw [h2]; exact ⟨rfl, rfl⟩, by rw [h2]; rfl⟩
      rw [h1, List.length_map, hlen])
  have e : ((Lib.splitB ⟨#[c]⟩ 0 (Lib.countB ⟨s.toArray⟩ ⟨#[c]⟩) ⟨s.toArray⟩).map Value.string).map (fun u => [AV.raw u]) = (cut c s).map fun p => [S p] := by
    rw [← hc, List.map_map, List.map_map]
    refine List.map_congr_left fun x _ => ?_
    simp [Function.comp]
  rw [e] at h; exact h
def SureR (b : Bool) (why : List UInt8) (x : ARes) : Prop := (b = true ∧ x = .ret (.tup [])) ∨ (b = false ∧ x = .pan (.ifc 184 (.agg [S why])))
def numR (w : List UInt8) (x : ARes) : Prop := match numO 4 w with | some n => x = .ret (I n) | none => x = .pan (.ifc 184 (.agg [S w]))
theorem numR_none {w : List UInt8} (h : numO 4 w = none) : numR w (.pan (.ifc 184 (.agg [S w]))) := by unfold numR; rw [h]
theorem numR_some {w : List UInt8} {n : Int} (h : numO 4 w = some n) : numR w (.ret (I n)) := by unfold numR; rw [h]
theorem numR_ret {w : List UInt8} {v : AV} (h : numR w (.ret v)) : numO 4 w = some (valN w) ∧ v = I (valN w) := by
  unfold numR at h
  cases hn : numO 4 w with
  | none => rw [hn] at h; cases h
  | some n => rw [hn] at h; cases h; exact ⟨by rw [numO_val hn], by rw [numO_val hn]⟩
theorem numR_pan {w : List UInt8} {v : AV} (h : numR w (.pan v)) : numO 4 w = none ∧ v = .ifc 184 (.agg [S w]) := by
  unfold numR at h
  cases hn : numO 4 w with
  | none => rw [hn] at h; cases h; exact ⟨rfl, rfl⟩
  | some n => rw [hn] at h; cases h
theorem val4 {w : List UInt8} {k : Nat} (hk : k ≤ w.length) (h4 : k ≤ 4) (hd : ∀ i, (h : i < w.length) → i < k → isD w[i] = true) : 0 ≤ valN (w.take k) ∧ valN (w.take k) ≤ 9999 := by
  have hb := valN_bd hk hd
  have : (10 ^ k : Nat) ≤ 10 ^ 4 := Nat.pow_le_pow_right (by omega) h4
  omega
def givR (ws : List (List UInt8)) (x : ARes) : Prop := match allO (numO 4) ws with | some l => x = .ret (ints l) | none => ∃ w, x = .pan (.ifc 184 (.agg [S w]))
theorem givR_none {ws : List (List UInt8)} (h : allO (numO 4) ws = none) (w : List UInt8) : givR ws (.pan (.ifc 184 (.agg [S w]))) := by unfold givR; rw [h]; exact ⟨w, rfl⟩
theorem givR_some {ws : List (List UInt8)} {l : List Int} (h : allO (numO 4) ws = some l) : givR ws (.ret (ints l)) := by unfold givR; rw [h]
theorem givR_ret {ws : List (List UInt8)} {v : AV} (h : givR ws (.ret v)) : ∃ l, allO (numO 4) ws = some l ∧ v = ints l := by
  unfold givR at h
  cases hn : allO (numO 4) ws with
  | none => rw [hn] at h; obtain ⟨w, h⟩ := h; cases h
  | some l => rw [hn] at h; cases h; exact ⟨l, rfl, rfl⟩
theorem givR_pan {ws : List (List UInt8)} {v : AV} (h : givR ws (.pan v)) : allO (numO 4) ws = none ∧ ∃ w, v = .ifc 184 (.agg [S w]) := by
  unfold givR at h
  cases hn : allO (numO 4) ws with
  | none => rw [hn] at h; obtain ⟨w, h⟩ := h; cases h; exact ⟨rfl, w, rfl⟩
  | some l => rw [hn] at h; cases h
theorem sure_pan (b : Bool) (why : List UInt8) : APan Tryz.prog 152 [B b, S why] (SureR b why) := by
  refine APan.of_acall (by simp [AV.pureL, AV.pureB, AV.pureE, pureE_map]) (acall_of (rs := []) Tryz.func152 rfl rfl (Nat.le_of_ble_eq_true rfl) fun e0 he0 => ?_)
  refine wz 2 ?_
  refine iz (fun c_5 c_5' => ?_) (fun c_5 c_5' => ?_)
  ·refine wz 3 ?_
   refine sq_panic jz ?_
   exact ⟨rfl, .pan (.ifc 184 (.agg [S why])), .inr ⟨by simpa using c_5, rfl⟩, rfl, jz⟩
  refine wz 0 ?_
  exact ⟨rfl, .tup [], rfl, .ret (.tup []), .inl ⟨by simpa using c_5, rfl⟩, rfl, jz⟩
theorem number_pan (w : List UInt8) (hw : w.length ≤ 1000000) : APan Tryz.prog 173 [S w] (numR w) := by
  refine APan.of_acall (by simp [AV.pureL, AV.pureB, AV.pureE, pureE_map]) (acall_of (rs := [.tmp 2]) Tryz.func173 rfl rfl (Nat.le_of_ble_eq_true rfl) fun e0 he0 => ?_)
  refine wz 3 ?_
  refine sq_rangeS rfl Tryz.underlying9 jz ?_
  refine wz 0 ?_
  refine aw_loopk (ι := { k : Nat // k ≤ w.length ∧ (∀ i, (h : i < w.length) → i < k → isD w[i] = true) ∧ (0 < k → w.length ≤ 4) }) [0, 7] (fun i => [(3, I (valN (w.take i.1)))]) (fun H i => H.set 0 (.raw (.stringIter ⟨w.toArray⟩ i.1))) (fun i => w.length - i.1) (⟨0, Nat.zero_le _, by omega, by omega⟩) ⟨jz, jz, jz, trivial⟩ rfl ?_
  rintro ⟨k, hk, hds, h3⟩
  refine nz ?_
  refine wz 0 ?_
  refine sq_nextS rfl jz rfl (fun n_8 => ?_) (fun n_8 => ?_)
  ·have hk' : k < w.length := by rw [bs_size] at n_8; exact n_8
   have hdl := decode_le ⟨w.toArray⟩ k
   refine wz 7 ?_
   refine sz 13 (fun g5_2 g5_2' => ?_) (fun g5_2 g5_2' => ?_)
   ·refine wz 4 ?_
    refine sz 17 (fun g5_6 g5_6' => ?_) (fun g5_6 g5_6' => ?_)
    ·refine wz 5 ?_
     refine sq_call (args := [B _, S w]) rfl en152.h jz ⟨jz, jz, trivial⟩ (sure_pan _ _ _) ?_ ?_
     rotate_left
     ·(rintro v _ ⟨rfl, (⟨_, h⟩ | ⟨hb, h⟩)⟩ <;> cases h; exact ⟨rfl, .pan (.ifc 184 (.agg [S w])), numR_none (numO_len (by simp at hb; omega)), rfl, jz⟩)
     rintro v _ ⟨rfl, (⟨hb, h⟩ | ⟨_, h⟩)⟩ <;> cases h
     refine sq_nil ?_
     have hlen : w.length ≤ 4 := by simp at hb; omega
     have hdec := dec_yes hk' (by omega) (by omega)
     have hv := val4 hk (by omega) hds
     have hb8 : (w[k]).toNat ≤ 57 := ((isD_iff _).1 hdec.2).2
     have eV : 10 * valN (w.take k) + (((Utf8.decode ⟨w.toArray⟩ k).1 : Int) - 48) = valN (w.take (k + 1)) := by rw [valN_take hk', hdec.1]
     refine wz 7 ?_
     exact ⟨⟨k + 1, by omega, fun i h hi => (by by_cases e : i = k; (subst e; exact hdec.2); exact hds i h (by omega)), fun _ => hlen⟩, by simp only; omega, sb 1 ⟨(by exact less_int eV), jz, jz, trivial⟩ (hH := (by rw [hdec.1] <;> rfl))⟩
    have hnd : isD w[k] = false := dec_no hk' (by omega)
    refine wz 5 ?_
    refine sq_call (args := [B false, S w]) rfl en152.h jz ⟨jz, jz, trivial⟩ (sure_pan _ _ _) ?_ ?_
    rotate_left
    ·(rintro v _ ⟨rfl, (⟨_, h⟩ | ⟨hb, h⟩)⟩ <;> cases h; exact ⟨rfl, .pan (.ifc 184 (.agg [S w])), numR_none (numO_dig hk' hnd), rfl, jz⟩)
    rintro v _ ⟨rfl, (⟨hb, _⟩ | ⟨_, h⟩)⟩
    ·cases hb
    ·cases h
   have hnd : isD w[k] = false := dec_no hk' (by omega)
   refine wz 9 ?_
   refine sq_call (args := [B false, S w]) rfl en152.h jz ⟨jz, jz, trivial⟩ (sure_pan _ _ _) ?_ ?_
   rotate_left
   ·(rintro v _ ⟨rfl, (⟨_, h⟩ | ⟨hb, h⟩)⟩ <;> cases h; exact ⟨rfl, .pan (.ifc 184 (.agg [S w])), numR_none (numO_dig hk' hnd), rfl, jz⟩)
   rintro v _ ⟨rfl, (⟨hb, _⟩ | ⟨_, h⟩)⟩
   ·cases hb
   ·cases h
  obtain rfl : k = w.length := by rw [bs_size] at n_8; omega
  have hv := val4 (Nat.le_refl w.length) (by rcases Nat.eq_zero_or_pos w.length with h | h; omega; have := h3 h; omega) hds
  have htk : w.take w.length = w := List.take_length
  have hv2 := hv
  rw [htk] at hv2
  refine wz 5 ?_
  refine sz 32 (fun g7_2 g7_2' => ?_) (fun g7_2 g7_2' => ?_)
  ·have hwe : w ≠ [] := by simpa using g7_2
   refine wz 1 ?_
   refine ky az (itoa_pure _ (by omega) (by omega)) ?_
   refine wz 4 ?_
   refine sq_call (args := [B _, S w]) rfl en152.h jz ⟨jz, jz, trivial⟩ (sure_pan _ _ _) ?_ ?_
   rotate_left
   ·(rintro v _ ⟨rfl, (⟨_, h⟩ | ⟨hb, h⟩)⟩ <;> cases h; exact ⟨rfl, .pan (.ifc 184 (.agg [S w])), numR_none (numO_itoa (by simpa [htk] using hb)), rfl, jz⟩)
   rintro v _ ⟨rfl, (⟨hb, h⟩ | ⟨_, h⟩)⟩ <;> cases h
   refine wz 2 ?_
   exact retQ_any (vs := [.raw _]) rfl rfl ⟨resVar_tmp _ _ _, trivial⟩ (⟨.ret (I (valN w)), numR_some (numO_some (fun i h => hds i h h) (h3 (List.length_pos_iff.2 hwe)) hwe (by simpa [htk] using hb)), rfl, Less.eq (by simp)⟩)
  have hwe : w = [] := by simpa using g7_2
  refine wz 6 ?_
  refine sq_call (args := [B false, S w]) rfl en152.h jz ⟨jz, jz, trivial⟩ (sure_pan _ _ _) ?_ ?_
  rotate_left
  ·(rintro v _ ⟨rfl, (⟨_, h⟩ | ⟨hb, h⟩)⟩ <;> cases h; exact ⟨rfl, .pan (.ifc 184 (.agg [S w])), numR_none (by subst hwe; exact numO_nil), rfl, jz⟩)
  rintro v _ ⟨rfl, (⟨hb, _⟩ | ⟨_, h⟩)⟩
  ·cases hb
  ·cases h
theorem indexS_pure (l : List (List UInt8)) (v : List UInt8) (hl : l.length ≤ 1000000) : APure Tryz.prog 154 [strs l, S v] (I (ixQ (fun x => decide (v = x)) l)) := by
  refine ap Tryz.func154 (fun e0 he0 => ?_)
  refine wz 4 ?_
  refine aw_loopk (ι := { k : Nat // k ≤ l.length ∧ ∀ i, (hi : i < l.length) → i < k → decide (v = l[i]) = false }) [0, 1, 7] (fun i => [(8, I i.1)]) (fun H i => H) (fun i => l.length - i.1) (⟨0, Nat.zero_le _, by omega⟩) ⟨jz, jz, jz, jz, trivial⟩ rfl ?_
  rintro ⟨k, hk, hok⟩
  refine nz ?_
  refine wz 1 ?_
  refine iz (fun c_9 c_9' => ?_) (fun c_9 c_9' => ?_)
  ·have hkL : k < l.length := by omega
   refine wz 8 ?_
   refine iz (fun c_16 c_16' => ?_) (fun c_16 c_16' => ?_)
   ·refine wz 2 ?_
    exact rz rfl (Less.eq (by rw [ixQ_at hkL (by simpa using c_16) hok]))
   refine wz 2 ?_
   exact ⟨⟨k + 1, by omega, fun i hi h => (by by_cases e : i = k; (subst e; simpa using c_16); exact hok i hi (by omega))⟩, by simp only; omega, Sub.slots ⟨jz, jz, jz, jz, trivial⟩⟩
  refine wz 1 ?_
  exact rz rfl (Less.eq (by rw [ixQ_no fun i hi => hok i hi (by omega)]))
theorem given_pan (ws : List (List UInt8)) (hl : ws.length ≤ 1000000) (hw : ∀ w ∈ ws, w.length ≤ 1000000) : APan Tryz.prog 153 [strs ws] (givR ws) := by
  refine APan.of_acall (by simp [AV.pureL, AV.pureB, AV.pureE, pureE_map]) (acall_of (rs := [.tmp 2]) Tryz.func153 rfl rfl (Nat.le_of_ble_eq_true rfl) fun e0 he0 => ?_)
  refine vz 5 ?_
  refine sq_nil ?_
  refine aw_block ?_
  refine aw_sub (sub_token 3 1 jz) ?_
  refine aw_loopk (ι := { q : List Int // q.length ≤ ws.length ∧ ∀ i, (h : i < q.length) → (h2 : i < ws.length) → numO 4 ws[i] = some q[i] }) [6, 7] (fun q => [(8, I q.1.length), (3, .own 0 1 (q.1.map fun x => [I x]))]) (fun H q => H.set 0 (.tok (q.1.map fun x => [I x]).length)) (fun q => ws.length - q.1.length) (⟨[], by simp, by simp⟩) ⟨jz, jz, jz, jz, trivial⟩ rfl ?_
  rintro ⟨q, hq, hok⟩
  refine nz ?_
  refine wz 1 ?_
  refine iz (fun c_9 c_9' => ?_) (fun c_9 c_9' => ?_)
  ·have hkw : q.length < ws.length := by omega
   have eS : (q ++ [valN ws[q.length]]).map (fun x => [I x]) = q.map (fun x => [I x]) ++ [[I (valN ws[q.length])]] := by rw [List.map_append]; rfl
   refine wz 5 ?_
   refine sq_call (args := [S ws[q.length]]) rfl en173.h jz ⟨jz, trivial⟩ (number_pan _ (hw _ (List.getElem_mem hkw)) _) ?_ ?_
   rotate_left
   ·(rintro v _ ⟨rfl, h⟩; obtain ⟨hn, rfl⟩ := numR_pan h; exact ⟨rfl, .pan (.ifc 184 (.agg [S _])), givR_none (allO_bad hkw hn) _, rfl, jz⟩)
   rintro v _ ⟨rfl, h⟩; obtain ⟨hn, rfl⟩ := numR_ret h
   refine sq_ev rfl (ev_buildSlice (es := [[_]]) sf28.h rfl rfl rfl rfl) ?_
   first | refine sq_append rfl sf28.h Tryz.underlying28 rfl rfl jz (Nat.succ_pos _) (by simp; omega) (by simp; omega) ?_ | refine sq_append rfl sf28.h Tryz.underlying28 rfl rfl (less_slx _ _) (Nat.succ_pos _) (by simp; omega) (by simp; omega) ?_
   refine wz 3 ?_
   exact ⟨⟨q ++ [valN ws[q.length]], by simp only [List.length_append, List.length_singleton]; omega, allO_snoc (hk := hkw) hok rfl hn⟩, by simp only [List.length_append, List.length_singleton]; omega, sb 1 ⟨(by exact less_int (by simp)), Less.eq (by rw [eS] <;> rfl), jz, jz, trivial⟩ (hH := (congrArg (fun n => [AObj.tok n]) (congrArg List.length eS.symm)))⟩
  have hqe : q.length = ws.length := by omega
  refine wz 2 ?_
  exact retQ_any (vs := [.own _ _ _]) rfl rfl ⟨resVar_tmp _ _ _, trivial⟩ (⟨.ret (ints q), givR_some (allO_ok hqe fun i h h2 => hok i h h2), by simp [ARes.pureB, AV.pureB], less_own _ _ _⟩)
end Go.Proofs.YtjpokekbjmdgmaaGreatDoor
namespace Go.Proofs.YtjpokekbjmdgmaaGreatDoor
open Go Go.Ab Ni Hd
instance bi27 : BdI Tryz.prog 27 [.raw (.slice none 0 0), .raw (.slice none 0 0), .raw (.int .i64 0), .raw (.int .i64 0), .raw (.int .i64 0), .raw (.int .i64 0), .raw (.int .i64 0), .raw (.int .i64 0)] true [(0, 1), (1, 1), (2, 2), (4, 2), (6, 1), (7, 1)] 0 := ⟨by kernel_rfl⟩
instance sf22 : SlS Tryz.prog 22 111 1 8 := ⟨SlFact.of (by kernel_rfl)⟩
instance ud22 : UnD Tryz.prog 22 (.slice 111) := ⟨Tryz.underlying22⟩
instance ud23 : UnD Tryz.prog 23 (.slice 28) := ⟨Tryz.underlying23⟩
instance z27 : ZeO Tryz.prog 27 [.raw (.slice none 0 0), .raw (.slice none 0 0), .raw (.int .i64 0), .raw (.int .i64 0), .raw (.int .i64 0), .raw (.int .i64 0), .raw (.int .i64 0), .raw (.int .i64 0)] := ⟨by kernel_rfl⟩
def parsR (s : List UInt8) (x : ARes) : Prop := match parseR s with
  | some r => x = .ret (rgA r)
  | none => ∃ w, x = .pan (.ifc 184 (.agg [S w]))
theorem parsR_none {s : List UInt8} (h : parseR s = none) (w : List UInt8) : parsR s (.pan (.ifc 184 (.agg [S w]))) := by unfold parsR; rw [h]; exact ⟨w, rfl⟩
theorem parsR_some {s : List UInt8} {r : Rg} (h : parseR s = some r) : parsR s (.ret (rgA r)) := by unfold parsR; rw [h]
def gvL (ws : List (List UInt8)) : List (List AV) := match allO (numO 4) ws with | some l => l.map fun x => [I x] | none => [[]]
abbrev givV (ws : List (List UInt8)) : AV := .sl 1 (gvL ws)
theorem givV_some {ws : List (List UInt8)} {l : List Int} (h : allO (numO 4) ws = some l) : givV ws = ints l := by unfold givV gvL; rw [h]
theorem givV_none {ws : List (List UInt8)} (h : allO (numO 4) ws = none) : givV ws = bot := by unfold givV gvL; rw [h]; rfl
@[simp] theorem inE_strt (n : Nat) (l : List (List UInt8)) : AV.inE n (l.map fun x => [S x]).tail = true := by rw [← List.map_tail]; exact inE_map fun x _ => by simp [AV.inL, AV.inB]
theorem given_pure {ws : List (List UInt8)} {l : List Int} (h : allO (numO 4) ws = some l) (hl : ws.length ≤ 1000000) (hw : ∀ w ∈ ws, w.length ≤ 1000000) : APure Tryz.prog 153 [strs ws] (ints l) :=
  (given_pan ws hl hw).pure (by simp [AV.pureL, AV.pureB]) (by simp [AV.pureB]) fun x hx => by unfold givR at hx; rw [h] at hx; exact ⟨_, hx, jz⟩
theorem dc_given {r : Option Nat} {nt : Nat} {e0 : Env} {Hc : List AObj} {ops : Array Oper} {fs es : List Nat} {Q : AExit → St → Prop} {i : Nat} {rest : List Oper} {s : St} {d : Option Tmp} {t : TypeId} {p : String} {af : Array Edge} {x y : Operand} {ats : Array TypeId} {ws : List (List UInt8)}
    (hd : dOK nt d = true) (hx : Less (s.op x) (.fn (.func 153) [] [])) (hy : Less (s.op y) (strs ws)) (hl : ws.length ≤ 1000000) (hw : ∀ w ∈ ws, w.length ≤ 1000000) (hq : ∀ (s' : St) w, allO (numO 4) ws = none → s'.df = s.df → Q (.panic (.ifc 184 (.agg [S w]))) s')
    (k : DC ⟨Tryz.prog, r, nt, e0⟩ Hc ops fs es Q (i + 1) rest (s.put d (givV ws))) : DC ⟨Tryz.prog, r, nt, e0⟩ Hc ops fs es Q i (⟨d, .call ⟨.value x, #[y], ats⟩, t, p, af, none⟩ :: rest) s := by
  cases h : allO (numO 4) ws with
  | some l =>
    rw [givV_some h] at k
    exact dc_ev hd (ev_call (args := [strs ws]) en153.h hx (given_pure h hl hw) (show LessL [s.op y] [strs ws] from ⟨hy, trivial⟩)) k
  | none =>
    rw [givV_none h] at k
    exact dc_pan hd (pan_call (args := [strs ws]) en153.h hx (show LessL [s.op y] [strs ws] from ⟨hy, trivial⟩) (given_pan ws hl hw) (fun v hv => by obtain ⟨l, h2, _⟩ := givR_ret hv; rw [h] at h2; cases h2) (fun v s' hv hdf => by obtain ⟨_, w, rfl⟩ := givR_pan hv; exact hq s' w h hdf)) k
theorem midE {r0 r1 : List UInt8} {rs : List (List UInt8)} (f : List UInt8 → List AV) (h : 2 ≤ rs.length) : AV.sl 1 ((((r0 :: r1 :: rs).map f).take ((r0 :: r1 :: rs).length - 2)).drop 2) = .sl 1 ((rs.take (rs.length - 2)).map f) := by
  congr 1
  have e1 : (r0 :: r1 :: rs).length - 2 = (rs.length - 2) + 1 + 1 := by simp; omega
  rw [e1]; simp [List.map_take]
theorem parsed_pan (s : List UInt8) (hs : s.length ≤ 300) : APan Tryz.prog 117 [S s] (parsR s) := by
  refine APan.of_acall (by simp [AV.pureL, AV.pureB, AV.pureE, pureE_map]) (acall_of (rs := [.cell 2 27]) Tryz.func117 rfl rfl (Nat.le_of_ble_eq_true rfl) fun e0 he0 => ?_)
  refine wz 2 ?_
  refine kz az (split_pure s 10 (by omega)) ?_
  refine vz 1 ?_
  refine sq_nil ?_
  refine aw_seq ?_
  generalize hR : cut 10 s = R
  have hRl := cut_len 10 s
  have hRm := cut_mem 10 s
  rw [hR] at hRl hRm
  refine wz 4 ?_
  refine sq_call (args := [B _, S s]) rfl en152.h jz ⟨jz, jz, trivial⟩ (sure_pan _ _ _) ?_ ?_
  rotate_left
  ·(rintro v _ ⟨rfl, (⟨_, h⟩ | ⟨hb, h⟩)⟩ <;> cases h; exact ⟨rfl, .pan (.ifc 184 (.agg [S _])), parsR_none (rows_few (by simp only [hR]; simp at hb; omega)) _, rfl, jz⟩)
  rintro v _ ⟨rfl, (⟨hb1, h⟩ | ⟨_, h⟩)⟩ <;> cases h
  refine sq_nil ?_
  refine aw_seq ?_
  obtain ⟨r0, r1, rs, rfl⟩ : ∃ r0 r1 rs, R = r0 :: r1 :: rs := by rcases R with _ | ⟨r0, _ | ⟨r1, rs⟩⟩ <;> simp at hb1; exact ⟨r0, r1, rs, rfl⟩
  have hr0 := hRm r0 (by simp)
  have hr1 := hRm r1 (by simp)
  have hrs2 : 2 ≤ rs.length := by simp at hb1; omega
  have hrsl : rs.length ≤ s.length := by have h := hRl.1; simp only [List.length_cons] at h; omega
  have hMl : (rs.take (rs.length - 2)).length ≤ rs.length := by rw [List.length_take]; omega
  refine wz 1 ?_
  refine sq_ev rfl (ev_index_map (k := 0) sl164.h jz jz rfl (by simp)) ?_
  refine wz 1 ?_
  refine kz az (split_pure r0 32 (by omega)) ?_
  refine sq_ev rfl (ev_less (ev_slice (lo := 1) sl164.h jz jz rfl (by simp; have := (cut_len 32 r0).2; omega) (by simp)) (Less.eq (b := strs ((cut 32 r0).drop 1)) (by rw [List.take_of_length_le (by simp)]; simp only [strs, List.map_drop]))) ?_
  refine sq_call (args := [strs ((cut 32 r0).drop 1)]) rfl en153.h jz ⟨jz, trivial⟩ (given_pan ((cut 32 r0).drop 1) (by have := (cut_len 32 r0).1; have := List.length_drop (i := 1) (l := cut 32 r0); omega) (fun w hw => by have := cut_mem 32 r0 _ (List.mem_of_mem_drop hw); omega) _) ?_ ?_
  rotate_left
  ·(rintro v _ ⟨rfl, h⟩; obtain ⟨hn, w, rfl⟩ := givR_pan h; exact ⟨rfl, .pan (.ifc 184 (.agg [S _])), parsR_none (rows_head hR (headO_num hn)) _, rfl, jz⟩)
  rintro v _ ⟨rfl, h⟩; obtain ⟨l0, hn_l0, rfl⟩ := givR_ret h
  refine wz 5 ?_
  refine sq_call (args := [B _, S s]) rfl en152.h jz ⟨jz, jz, trivial⟩ (sure_pan _ _ _) ?_ ?_
  rotate_left
  ·(rintro v _ ⟨rfl, (⟨_, h⟩ | ⟨hb, h⟩)⟩ <;> cases h; exact ⟨rfl, .pan (.ifc 184 (.agg [S _])), parsR_none (rows_head hR (headO_len hn_l0 (by simp at hb; omega))) _, rfl, jz⟩)
  rintro v _ ⟨rfl, (⟨hb2, h⟩ | ⟨_, h⟩)⟩ <;> cases h
  refine sq_nil ?_
  refine aw_seq ?_
  have h6 : l0.length = 6 := by simp at hb2; omega
  obtain ⟨a1, a2, a3, a4, a5, a6, rfl⟩ := six h6
  refine aw_draw 22 mo (by kernel_rfl) ?_
  refine dz 1 ?_
  refine dr_ev rfl (ev_index_map (k := 0) (xs := [a1, a2, a3, a4, a5, a6]) sl28.h jz jz rfl (by simp)) ?_
  refine dz 2 ?_
  refine dr_ev rfl (ev_index_map (k := 1) (xs := [a1, a2, a3, a4, a5, a6]) sl28.h jz jz rfl (by simp)) ?_
  refine dz 2 ?_
  refine dr_ev rfl (ev_index_map (k := 2) (xs := [a1, a2, a3, a4, a5, a6]) sl28.h jz jz rfl (by simp)) ?_
  refine dz 2 ?_
  refine dr_ev rfl (ev_index_map (k := 3) (xs := [a1, a2, a3, a4, a5, a6]) sl28.h jz jz rfl (by simp)) ?_
  refine dz 3 ?_
  refine dr_ev rfl (ev_index_map (k := 4) (xs := [a1, a2, a3, a4, a5, a6]) sl28.h jz jz rfl (by simp)) ?_
  refine dz 2 ?_
  refine dr_ev rfl (ev_index_map (k := 5) (xs := [a1, a2, a3, a4, a5, a6]) sl28.h jz jz rfl (by simp)) ?_
  refine dz 3 ?_
  refine dr_alloc rfl z27.h ?_
  refine dr_end ?_
  refine wz 2 ?_
  refine sq_ev rfl (ev_index_map (k := 1) sl164.h jz jz rfl (by simp)) ?_
  refine wz 1 ?_
  refine kz az (split_pure r1 32 (by omega)) ?_
  refine sq_ev rfl (ev_less (ev_slice (lo := 1) sl164.h jz jz rfl (by simp; have := (cut_len 32 r1).2; omega) (by simp)) (Less.eq (b := strs ((cut 32 r1).drop 1)) (by rw [List.take_of_length_le (by simp)]; simp only [strs, List.map_drop]))) ?_
  refine vz 2 ?_
  refine sq_nil ?_
  refine aw_block ?_
  refine aw_sub (sub_token_cell 1 1 [] (.raw (.slice none 0 0) :: [I a3, I a4, I a5, I a6, I a1, I a2]) rfl) ?_
  refine aw_loopk (ι := { q : List Int // q.length ≤ ((cut 32 r1).drop 1).length ∧ ∀ i, (h : i < q.length) → (h2 : i < ((cut 32 r1).drop 1).length) → kdO ((cut 32 r1).drop 1)[i] = some q[i] }) [0, 2, 3, 5, 54, 55] (fun q => [(56, I q.1.length)]) (fun H q => (H.set 1 (.cells (.own 2 1 (q.1.map fun x => [I x]) :: .raw (.slice none 0 0) :: [I a3, I a4, I a5, I a6, I a1, I a2]))).set 2 (.tok (q.1.map fun x => [I x]).length)) (fun q => ((cut 32 r1).drop 1).length - q.1.length) (⟨[], by simp, by simp⟩) ⟨(by exact less_int (by simp)), jz, jz, jz, jz, jz, jz, trivial⟩ rfl ?_
  rintro ⟨q, hq, hok⟩
  refine nz ?_
  have hql := (cut_len 32 r1).1
  rw [List.length_drop] at hq
  refine wz 1 ?_
  refine iz (fun c_57 c_57' => ?_) (fun c_57 c_57' => ?_)
  ·have hk : q.length < ((cut 32 r1).drop 1).length := by rw [List.length_drop]; simp at c_57'; omega
   refine wz 3 ?_
   refine kz az (ways_pure) ?_
   refine wz 1 ?_
   refine kz az (indexS_pure [wAlo, wAcr] _ (by simp)) ?_
   refine wz 4 ?_
   refine sq_call (args := [B _, S ((cut 32 r1).drop 1)[q.length]]) rfl en152.h jz ⟨jz, jz, trivial⟩ (sure_pan _ _ _) ?_ ?_
   rotate_left
   ·(rintro v _ ⟨rfl, (⟨_, h⟩ | ⟨hb, h⟩)⟩ <;> cases h; exact ⟨rfl, .pan (.ifc 184 (.agg [S _])), parsR_none (rows_kinds hR (allO_bad hk (by rcases kd_ix ((cut 32 r1).drop 1)[q.length] with ⟨_, h⟩ | ⟨h, _⟩; exact h; (have h7 := of_decide_eq_false hb; omega)))) _, rfl, jz⟩)
   rintro v _ ⟨rfl, (⟨hb3, h⟩ | ⟨_, h⟩)⟩ <;> cases h
   refine sq_nil ?_
   have hkd : kdO ((cut 32 r1).drop 1)[q.length] = some (1 + (ixQ (fun x => decide (((cut 32 r1).drop 1)[q.length] = x)) [wAlo, wAcr])) := by rcases kd_ix ((cut 32 r1).drop 1)[q.length] with ⟨h, _⟩ | ⟨_, _, h⟩; (exact absurd (of_decide_eq_true hb3) (by omega)); exact h
   have hix : 0 ≤ (ixQ (fun x => decide (((cut 32 r1).drop 1)[q.length] = x)) [wAlo, wAcr]) ∧ (ixQ (fun x => decide (((cut 32 r1).drop 1)[q.length] = x)) [wAlo, wAcr]) ≤ 1 := by rcases kd_ix ((cut 32 r1).drop 1)[q.length] with ⟨h, _⟩ | ⟨h1, h2, _⟩; (exact absurd (of_decide_eq_true hb3) (by omega)); exact ⟨h1, h2⟩
   have eS : (q ++ [1 + (ixQ (fun x => decide (((cut 32 r1).drop 1)[q.length] = x)) [wAlo, wAcr])]).map (fun x => [I x]) = q.map (fun x => [I x]) ++ [[I (1 + (ixQ (fun x => decide (((cut 32 r1).drop 1)[q.length] = x)) [wAlo, wAcr]))]] := by rw [List.map_append]; rfl
   refine wz 4 ?_
   refine sq_ev rfl (ev_buildSlice (es := [[_]]) sf22.h rfl rfl rfl rfl) ?_
   first | refine sq_append rfl sf22.h Tryz.underlying22 rfl rfl jz (Nat.succ_pos _) (by simp; omega) (by simp; omega) ?_ | refine sq_append rfl sf22.h Tryz.underlying22 rfl rfl (less_slx _ _) (Nat.succ_pos _) (by simp; omega) (by simp; omega) ?_
   refine wz 4 ?_
   exact ⟨⟨q ++ [1 + (ixQ (fun x => decide (((cut 32 r1).drop 1)[q.length] = x)) [wAlo, wAcr])], by simp only [List.length_append, List.length_singleton]; omega, allO_snoc (hk := hk) hok rfl hkd⟩, by simp only [List.length_append, List.length_singleton]; omega, sb 3 ⟨(by exact less_int (by simp)), jz, jz, jz, jz, jz, jz, trivial⟩ (hH := (congrArg (fun L => [_, AObj.cells (AV.own 2 1 L :: AV.raw (.slice none 0 0) :: [I a3, I a4, I a5, I a6, I a1, I a2]), AObj.tok L.length]) eS.symm))⟩
  have hqe : q.length = ((cut 32 r1).drop 1).length := by rw [List.length_drop]; simp at c_57'; omega
  have hks : kindsO r1 = some q := allO_ok hqe (fun i h h2 => hok i h h2)
  refine wz 4 ?_
  refine sq_ev rfl (ev_less (ev_slice (lo := 2) (hi := (r0 :: r1 :: rs).length - 2) sl164.h jz jz (less_int (by simp; omega)) (by simp; omega) (by simp; omega)) (Less.eq (b := .sl 1 ((rs.take (rs.length - 2)).map fun p => [S p])) (midE _ hrs2))) ?_
  refine vz 2 ?_
  refine sq_nil ?_
  refine aw_block ?_
  refine aw_sub (sub_token_cell 1 1 [.own 2 1 (q.map fun x => [I x])] [I a3, I a4, I a5, I a6, I a1, I a2] rfl) ?_
  refine aw_loopk (ι := { q : List (List Int) // q.length ≤ (rs.take (rs.length - 2)).length ∧ ∀ i, (h : i < q.length) → (h2 : i < (rs.take (rs.length - 2)).length) → numsR (rs.take (rs.length - 2))[i] = some q[i] }) [0, 2, 5, 79, 80] (fun q2 => [(81, I q2.1.length)]) (fun H q2 => (H.set 1 (.cells (.own 2 1 (q.map fun x => [I x]) :: .own 3 1 (q2.1.map fun h => [ints h]) :: [I a3, I a4, I a5, I a6, I a1, I a2]))).set 3 (.tok (q2.1.map fun h => [ints h]).length)) (fun q2 => (rs.take (rs.length - 2)).length - q2.1.length) (⟨[], by simp, by simp⟩) ⟨(by exact less_int (by simp)), jz, jz, jz, jz, jz, trivial⟩ rfl ?_
  rintro ⟨q2, hq2, hok2⟩
  refine nz ?_
  refine wz 1 ?_
  refine iz (fun c_82 c_82' => ?_) (fun c_82 c_82' => ?_)
  ·have hkm : q2.length < (rs.take (rs.length - 2)).length := by omega
   refine vz 3 ?_
   refine sq_nil ?_
   generalize hr : (rs.take (rs.length - 2))[q2.length] = r
   have hrl : r.length ≤ s.length := hr ▸ hRm _ (List.mem_cons_of_mem _ (List.mem_cons_of_mem _ (List.mem_of_mem_take (List.getElem_mem hkm))))
   refine aw_drawc [] [7, 9] _ mo (by kernel_rfl) (HSub.mask [1] 0 _) ?_
   first | refine dc_ev rfl (ev_fieldAddr fo27_1.h jz) ?_ | refine dc_ev rfl (ev_fieldAddr_i fo27_1.h jz) ?_
   refine dc_ev0 rfl (by kernel_rfl) (ev_load jz rfl ty23.h rfl) ?_
   refine dc_ev rfl (ev_mv (v := .raw _) jz) ?_
   refine dc_ev rfl (ev_call en151.h jz (split_pure r 32 (by omega)) ⟨jz, jz, trivial⟩) ?_
   refine dc_ev rfl (ev_less (ev_slice (lo := 1) sl164.h jz jz rfl (by simp; have := (cut_len 32 r).2; omega) (by simp)) (Less.eq (b := strs ((cut 32 r).drop 1)) (by rw [List.take_of_length_le (by simp)]; simp only [strs, List.map_drop]))) ?_
   refine dc_given (ws := ((cut 32 r).drop 1)) rfl jz jz (by have := (cut_len 32 r).1; have := List.length_drop (i := 1) (l := cut 32 r); omega) (fun w hw => by have := cut_mem 32 r _ (List.mem_of_mem_drop hw); omega) (fun s' w hn hdf => by exact ⟨hdf, .pan (.ifc 184 (.agg [S w])), parsR_none (rows_hides hR (allO_bad hkm (by rw [hr]; exact hn))) _, rfl, jz⟩) ?_
   refine dc_ev rfl (ev_buildSlice (es := [[_]]) sf23.h rfl rfl rfl rfl) ?_
   refine dc_eff rfl rfl (eff_append rfl sf23.h Tryz.underlying23 rfl rfl (less_slx _ _) (by simp; omega) (by simp; omega)) (by apply HL.sub; repeat' (first | exact HL.nil _ | apply HL.same | apply HL.tok)) ?_
   first | refine dc_ev rfl (ev_fieldAddr fo27_1.h jz) ?_ | refine dc_ev rfl (ev_fieldAddr_i fo27_1.h jz) ?_
   refine dc_eff rfl rfl (eff_store rfl jz jz rfl rfl ty23.h rfl rfl) (by apply HL.sub; repeat' (first | exact HL.nil _ | apply HL.same | apply HL.tok)) ?_
   refine dc_nil ?_
   rcases hx9 : numsR r with _ | hl9
   ·exact aw_bot 90 (by show Less (givV _) bot; rw [givV_none hx9]; exact jz)
   have hg9 : givV ((cut 32 r).drop 1) = ints hl9 := givV_some hx9
   have eS2 : (q2 ++ [hl9]).map (fun h => [ints h]) = q2.map (fun h => [ints h]) ++ [[givV ((cut 32 r).drop 1)]] := by rw [List.map_append, hg9]; rfl
   refine wz 2 ?_
   exact ⟨⟨q2 ++ [hl9], by simp only [List.length_append, List.length_singleton]; omega, allO_snoc (hk := hkm) hok2 hr hx9⟩, by simp only [List.length_append, List.length_singleton]; omega, sb 4 ⟨(by exact less_int (by simp)), jz, jz, jz, jz, jz, trivial⟩ (hH := (congrArg (fun L => [_, AObj.cells (AV.own 2 1 (q.map fun x => [I x]) :: AV.own 3 1 L :: [I a3, I a4, I a5, I a6, I a1, I a2]), _, AObj.tok L.length]) eS2.symm))⟩
  have hqe2 : q2.length = (rs.take (rs.length - 2)).length := by omega
  have hhs : allO numsR (rs.take (rs.length - 2)) = some q2 := allO_ok hqe2 (fun i h h2 => hok2 i h h2)
  have sm0 := sm_read (hs := q2) hn_l0 rfl hks hhs (by omega) (by omega) (fun m hm => Nat.le_trans (hRm m (List.mem_cons_of_mem _ (List.mem_cons_of_mem _ (List.mem_of_mem_take hm)))) hs) (by omega)
  obtain ⟨b, hP⟩ : ∃ b : Rg, b = rg6 [a1, a2, a3, a4, a5, a6] q q2 := ⟨_, rfl⟩
  have hp0 : rowsR s = some b := by rw [hP]; exact rows_all hR hrs2 (headO_ok hn_l0 rfl) hks hhs
  have sm : SmR b := by rw [hP]; exact sm0
  have hL : Less (.agg (.own 2 1 (q.map fun x => [I x]) :: .own 3 1 (q2.map fun h => [ints h]) :: [I a3, I a4, I a5, I a6, I a1, I a2])) (rgA b) := by rw [hP]; exact less_agg ⟨less_own _ _ _, less_own _ _ _, jz, jz, jz, jz, jz, jz, trivial⟩
  refine wz 1 ?_
  refine sq_ev rfl (ev_call en115.h jz (text_pure sm) ⟨hL, trivial⟩) ?_
  refine wz 3 ?_
  refine sq_call (args := [B _, S s]) rfl en152.h jz ⟨jz, jz, trivial⟩ (sure_pan _ _ _) ?_ ?_
  rotate_left
  ·(rintro v _ ⟨rfl, (⟨_, h⟩ | ⟨hb, h⟩)⟩ <;> cases h; exact ⟨rfl, .pan (.ifc 184 (.agg [S _])), parsR_none (by unfold parseR; rw [hp0]; simp only; rw [if_neg (by simpa using hb)]) _, rfl, jz⟩)
  rintro v _ ⟨rfl, (⟨hb4, h⟩ | ⟨_, h⟩)⟩ <;> cases h
  refine wz 2 ?_
  exact retQ_any (vs := [.agg _]) rfl rfl ⟨resVar_cell rfl rfl ty27.h rfl, trivial⟩ (⟨.ret (rgA b), parsR_some (by unfold parseR; rw [hp0]; simp only; rw [if_pos (by simpa using hb4)]), by simp [ARes.pureB, AV.pureL, AV.pureB, AV.pureE, pureE_map], hL⟩)
end Go.Proofs.YtjpokekbjmdgmaaGreatDoor
namespace Go.Proofs.YtjpokekbjmdgmaaGreatDoor
open Go Go.Ab Ni Hd
instance en116 : EnT Tryz.prog 116 := ⟨Ent.of Tryz.func116 (by kernel_rfl) rfl⟩
instance en117 : EnT Tryz.prog 117 := ⟨Ent.of Tryz.func117 (by kernel_rfl) rfl⟩
abbrev rg0 : Rg := ⟨[], [], 0, 0, 0, 0, 0, 0⟩
abbrev z0 : List AV := [.raw (.slice none 0 0), .raw (.slice none 0 0), I 0, I 0, I 0, I 0, I 0, I 0]
theorem less_rg0 : Less (.agg z0) (rgA rg0) := less_agg ⟨less_nil 1, less_nil 1, jz, jz, jz, jz, jz, jz, trivial⟩
def readE (s : List UInt8) : Rg × Int := if 300 < s.length then (rg0, 3) else match parseR s with
  | some r => if rgOK r = true then (r, 0) else (rg0, 2)
  | none => (rg0, 4)
abbrev readAV (s : List UInt8) : AV := .tup [rgA (readE s).1, I (readE s).2]
theorem readAV_pure (s : List UInt8) : (readAV s).pureB = true := by simp [AV.pureL, AV.pureB, AV.pureE, pureE_map]
theorem readE_long {s : List UInt8} (h : 300 < s.length) : readE s = (rg0, 3) := by unfold readE; rw [if_pos h]
theorem readE_none {s : List UInt8} (h : ¬ 300 < s.length) (h2 : parseR s = none) : readE s = (rg0, 4) := by unfold readE; rw [if_neg h, h2]
theorem readE_bad {s : List UInt8} {r : Rg} (h : ¬ 300 < s.length) (h2 : parseR s = some r) (h3 : rgOK r = false) : readE s = (rg0, 2) := by unfold readE; rw [if_neg h, h2]; simp only; rw [if_neg (by rw [h3]; simp)]
theorem readE_ok {s : List UInt8} {r : Rg} (h : ¬ 300 < s.length) (h2 : parseR s = some r) (h3 : rgOK r = true) : readE s = (r, 0) := by unfold readE; rw [if_neg h, h2]; simp only; rw [if_pos h3]
theorem parsR_ret {s : List UInt8} {r : Rg} {v : AV} (hp : parseR s = some r) (h : parsR s (.ret v)) : v = rgA r := by unfold parsR at h; rw [hp] at h; cases h; rfl
theorem parsR_yes {s : List UInt8} {r : Rg} {v : AV} (hp : parseR s = some r) (h : parsR s (.pan v)) : False := by unfold parsR at h; rw [hp] at h; cases h
theorem parsR_no {s : List UInt8} {v : AV} (hp : parseR s = none) (h : parsR s (.ret v)) : False := by unfold parsR at h; rw [hp] at h; obtain ⟨w, h⟩ := h; cases h
theorem parsR_pan {s : List UInt8} {v : AV} (hp : parseR s = none) (h : parsR s (.pan v)) : ∃ w, v = .ifc 184 (.agg [S w]) := by unfold parsR at h; rw [hp] at h; obtain ⟨w, h⟩ := h; cases h; exact ⟨w, rfl⟩
theorem read1_yes {s : List UInt8} {r : Rg} {i j : Nat} {H : List AObj} (hs : s.length ≤ 300) (hp : parseR s = some r) (hi : H[i]? = some (.cells [S s])) (hj : H[j]? = some (.cells z0)) :
    ACall Tryz.prog 116 [.ptr i 0, .ptr j 0] H fun x H' => H' = H.set j (.cells (rgC r)) ∧ x = .ret (.tup []) := by
  refine acall_of (rs := []) Tryz.func116 rfl rfl (Nat.le_of_ble_eq_true rfl) fun e0 he0 => ?_
  refine aw_region (sq_ev rfl (ev_load jz hi ty9.h rfl) ?_)
  refine sq_call (first := []) (cap := []) (args := [S s]) rfl en117.h jz ⟨jz, trivial⟩ (parsed_pan s hs H) ?_ ?_
  · rintro v _ ⟨rfl, hR⟩
    obtain rfl := parsR_ret hp hR
    refine sq_store (j := j) (off := 0) rfl jz jz rfl hj ty27.h rfl rfl ?_
    refine sq_nil ?_
    exact ⟨rfl, .tup [], rfl, rfl, rfl⟩
  · rintro v _ ⟨rfl, hR⟩
    exact (parsR_yes hp hR).elim
theorem read1_no {s : List UInt8} {i j : Nat} {H : List AObj} (hs : s.length ≤ 300) (hp : parseR s = none) (hi : H[i]? = some (.cells [S s])) :
    ACall Tryz.prog 116 [.ptr i 0, .ptr j 0] H fun x H' => H' = H ∧ ∃ w, x = .pan (.ifc 184 (.agg [S w])) := by
  refine acall_of (rs := []) Tryz.func116 rfl rfl (Nat.le_of_ble_eq_true rfl) fun e0 he0 => ?_
  refine aw_region (sq_ev rfl (ev_load jz hi ty9.h rfl) ?_)
  refine sq_call (first := []) (cap := []) (args := [S s]) rfl en117.h jz ⟨jz, trivial⟩ (parsed_pan s hs H) ?_ ?_
  · rintro v _ ⟨rfl, hR⟩
    exact (parsR_no hp hR).elim
  · rintro v _ ⟨rfl, hR⟩
    obtain ⟨w, rfl⟩ := parsR_pan hp hR
    exact ⟨rfl, rfl, w, rfl⟩
theorem attread_yes {s : List UInt8} {r : Rg} {i j : Nat} {H : List AObj} (hs : s.length ≤ 300) (hp : parseR s = some r) (hi : H[i]? = some (.cells [S s])) (hj : H[j]? = some (.cells z0)) (hin : objsIn H.length (H.set j (.cells (rgC r))) = true) :
    ACall Tryz.prog 87 [.fn (.func 116) [] [.ptr i 0, .ptr j 0]] H fun x H' => H' = H.set j (.cells (rgC r)) ∧ x = .ret (I 0) := by
  refine ACall.drop (H1 := H.set j (.cells (rgC r))) (R := fun x => x = .ret (I 0)) ?_ (by simp) (by simpa using hin) (fun x hx => by subst hx; rfl)
  refine (attempt_call (first := []) (caps := [.ptr i 0, .ptr j 0]) (Rd := fun x H1 => H1 = H.set j (.cells (rgC r)) ∧ x = .ret (.tup [])) en116.h
    ((read1_yes hs hp (i := i) (j := j) (lookL hi) (lookL hj)).mono ?_)).mono ?_
  · rintro x _ ⟨rfl, rfl⟩
    exact ⟨H.set j (.cells (rgC r)), [], by rw [setL (lt_of_get? hj)]; simp, by simp, ⟨rfl, rfl⟩, _, Gave.ret _⟩
  · rintro x H' ⟨y, v, H1, X, rfl, hg, ⟨rfl, rfl⟩, rfl⟩
    refine ⟨⟨X, rfl⟩, ?_⟩
    cases hg; rfl
theorem attread_no {s : List UInt8} {i j : Nat} {H : List AObj} (hs : s.length ≤ 300) (hp : parseR s = none) (hi : H[i]? = some (.cells [S s])) (hin : objsIn H.length H = true) :
    ACall Tryz.prog 87 [.fn (.func 116) [] [.ptr i 0, .ptr j 0]] H fun x H' => H' = H ∧ x = .ret (I 4) := by
  refine ACall.drop (R := fun x => x = .ret (I 4)) ?_ (Nat.le_refl _) hin (fun x hx => by subst hx; rfl)
  refine (attempt_call (first := []) (caps := [.ptr i 0, .ptr j 0]) (Rd := fun x H1 => H1 = H ∧ ∃ w, x = .pan (.ifc 184 (.agg [S w]))) en116.h
    ((read1_no hs hp (i := i) (j := j) (lookL hi)).mono ?_)).mono ?_
  · rintro x _ ⟨rfl, w, rfl⟩
    exact ⟨H, [], by simp, rfl, ⟨rfl, w, rfl⟩, _, Gave.text (S w) rfl⟩
  · rintro x H' ⟨y, v, H1, X, rfl, hg, ⟨rfl, w, rfl⟩, rfl⟩
    refine ⟨⟨X, rfl⟩, ?_⟩
    cases hg; rfl
theorem readL_pure (s : List UInt8) (hs : 300 < s.length) : APure Tryz.prog 62 [S s] (readAV s) := by
  refine ap Tryz.func62 (fun e0 he0 => ?_) (hr := readAV_pure s)
  refine wz 6 ?_
  refine iz (fun c_8 c_8' => ?_) (fun c_8 c_8' => ?_)
  ·refine wz 3 ?_
   exact retQ_res (vs := [.agg _, .raw _]) rfl rfl ⟨resVar_cell rfl rfl ty27.h rfl, resVar_tmp _ _ _, trivial⟩ (Less.trans (b := .tup [rgA rg0, I 3]) (less_tup ⟨less_rg0, jz, trivial⟩) (Less.eq (by rw [readAV, readE_long hs])))
  exfalso; omega
theorem readN_pure (s : List UInt8) (hs : ¬ 300 < s.length) (hp : parseR s = none) : APure Tryz.prog 62 [S s] (readAV s) := by
  refine ap Tryz.func62 (fun e0 he0 => ?_) (hr := readAV_pure s)
  refine wz 6 ?_
  refine iz (fun c_8 c_8' => ?_) (fun c_8 c_8' => ?_)
  ·exfalso; omega
  refine wz 2 ?_
  refine sq_call (args := [.fn (.func 116) [] [.ptr 0 0, .ptr 2 0]]) rfl en87.h jz ⟨jz, trivial⟩ (attread_no (H := [.cells [S s], .cells z0, .cells z0]) (i := 0) (j := 2) (by omega) hp rfl (by simp [objsIn, AObj.inB, AV.inB, AV.inL, AV.inE, inE_map])) ?_ (by rintro v H' ⟨_, h⟩; cases h)
  rintro _ _ ⟨rfl, h⟩; cases h
  refine wz 3 ?_
  refine iz (fun c_13 c_13' => ?_) (fun c_13 c_13' => ?_)
  ·refine wz 4 ?_
   exact retQ_res (vs := [.agg _, .raw _]) rfl rfl ⟨resVar_cell rfl rfl ty27.h rfl, resVar_tmp _ _ _, trivial⟩ (Less.trans (b := .tup [rgA rg0, I 4]) (less_tup ⟨less_rg0, jz, trivial⟩) (Less.eq (by rw [readAV, readE_none hs hp])))
  exfalso; simp at c_13
theorem readS_pure (s : List UInt8) (r : Rg) (hs : ¬ 300 < s.length) (hp : parseR s = some r) : APure Tryz.prog 62 [S s] (readAV s) := by
  refine ap Tryz.func62 (fun e0 he0 => ?_) (hr := readAV_pure s)
  refine aw_seq ?_
  have sm := parse_sm (by omega) hp
  refine wz 6 ?_
  refine iz (fun c_8 c_8' => ?_) (fun c_8 c_8' => ?_)
  ·exfalso; omega
  refine wz 2 ?_
  refine sq_call (args := [.fn (.func 116) [] [.ptr 0 0, .ptr 2 0]]) rfl en87.h jz ⟨jz, trivial⟩ (attread_yes (H := [.cells [S s], .cells z0, .cells z0]) (i := 0) (j := 2) (by omega) hp rfl rfl (by simp [objsIn, AObj.inB, AV.inB, AV.inL, AV.inE, inE_map])) ?_ (by rintro v H' ⟨_, h⟩; cases h)
  rintro _ _ ⟨rfl, h⟩; cases h
  refine wz 3 ?_
  refine iz (fun c_13 c_13' => ?_) (fun c_13 c_13' => ?_)
  ·exfalso; simp at c_13
  refine wz 1 ?_
  refine kz az (isregister_pure r (by have := sm.nk; omega) (by have := sm.len; omega) (fun h hh => by have := (sm.hides h hh).1; omega)) ?_
  refine wz 1 ?_
  refine iz (fun c_18 c_18' => ?_) (fun c_18 c_18' => ?_)
  ·refine wz 3 ?_
   exact retQ_res (vs := [.agg _, .raw _]) rfl rfl ⟨resVar_cell rfl rfl ty27.h rfl, resVar_tmp _ _ _, trivial⟩ (Less.trans (b := .tup [rgA rg0, I 2]) (less_tup ⟨less_rg0, jz, trivial⟩) (Less.eq (by rw [readAV, readE_bad hs hp (by simpa using c_18)])))
  refine wz 3 ?_
  exact retQ_res (vs := [.agg _, .raw _]) rfl rfl ⟨resVar_cell rfl rfl ty27.h rfl, resVar_tmp _ _ _, trivial⟩ (Less.trans (b := .tup [rgA r, I 0]) (less_tup ⟨jz, jz, trivial⟩) (Less.eq (by rw [readAV, readE_ok hs hp (by simpa using c_18)])))
/-- **Read.** -/
theorem read_pure (s : List UInt8) : APure Tryz.prog 62 [S s] (readAV s) := by
  by_cases hs : 300 < s.length
  · exact readL_pure s hs
  · cases hp : parseR s with
    | none => exact readN_pure s hs hp
    | some b => exact readS_pure s b hs hp
end Go.Proofs.YtjpokekbjmdgmaaGreatDoor
