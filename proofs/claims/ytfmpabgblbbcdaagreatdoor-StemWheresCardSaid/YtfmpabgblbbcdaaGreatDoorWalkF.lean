/-
  A part of the proof: conditions: none beyond each theorem's own.
-/
import Derived.Test.YtfmpabgblbbcdaaGreatDoorWalkE
import Derived.Test.YtfmpabgblbbcdaaGreatDoorLogicD
import Derived.KernelRfl
import Derived.Lib.LaidTab
import Derived.Lib.ItoaNum
import Derived.Test.YtfmpabgblbbcdaaGreatDoorLogicC
set_option linter.all false
set_option maxRecDepth 100000
set_option maxHeartbeats 8000000
namespace Go.Proofs.YtfmpabgblbbcdaaGreatDoor
open Go Go.Ab Ni St
open Hd hiding sz
instance bi26 : BdI Tryz.prog 26 [.raw (.int .i64 0), .raw (.slice none 0 0), .raw (.slice none 0 0), .raw (.slice none 0 0)] true [(0, 1), (1, 1), (2, 1), (3, 1)] 0 := ⟨by kernel_rfl⟩
instance bi41 : BdI Tryz.prog 41 [.raw (.slice none 0 0), .raw (.slice none 0 0), .raw (.int .i64 0), .raw (.slice none 0 0)] true [(0, 1), (1, 1), (2, 1), (3, 1)] 0 := ⟨by kernel_rfl⟩
instance bi82 : BdI Tryz.prog 82 [.raw (.int .i64 0), .raw (.int .i64 0), .raw (.int .i64 0)] true [(0, 1), (1, 1), (2, 1)] 0 := ⟨by kernel_rfl⟩
instance sf23 : SlS Tryz.prog 23 82 3 24 := ⟨SlFact.of (by kernel_rfl)⟩
instance ud23 : UnD Tryz.prog 23 (.slice 82) := ⟨Tryz.underlying23⟩
def parsR (s : List UInt8) (x : ARes) : Prop := match parseS s with
  | some p => x = .ret (plA p)
  | none => ∃ w, x = .pan (.ifc 181 (.agg [S w]))
theorem parsR_none {s : List UInt8} (h : parseS s = none) (w : List UInt8) : parsR s (.pan (.ifc 181 (.agg [S w]))) := by unfold parsR; rw [h]; exact ⟨w, rfl⟩
theorem parsR_some {s : List UInt8} {p : Ply} (h : parseS s = some p) : parsR s (.ret (plA p)) := by unfold parsR; rw [h]
def tvL (ws : List (List UInt8)) : List (List AV) := match allO (numO 1) ws with | some l => l.map fun x => [I x] | none => [[]]
abbrev tolV (ws : List (List UInt8)) : AV := .sl 1 (tvL ws)
theorem tolV_some {ws : List (List UInt8)} {l : List Int} (h : allO (numO 1) ws = some l) : tolV ws = ints l := by unfold tolV tvL; rw [h]
theorem tolV_none {ws : List (List UInt8)} (h : allO (numO 1) ws = none) : tolV ws = bot := by unfold tolV tvL; rw [h]; rfl
def lvL (w : List UInt8) : List (List AV) := match listO w with | some l => l.map fun x => [I x] | none => [[]]
abbrev lisV (w : List UInt8) : AV := .sl 1 (lvL w)
theorem lisV_some {w : List UInt8} {l : List Int} (h : listO w = some l) : lisV w = ints l := by unfold lisV lvL; rw [h]
theorem lisV_none {w : List UInt8} (h : listO w = none) : lisV w = bot := by unfold lisV lvL; rw [h]; rfl
theorem told_pure {ws : List (List UInt8)} {l : List Int} (h : allO (numO 1) ws = some l) (hl : ws.length ≤ 1000000) (hw : ∀ w ∈ ws, w.length ≤ 1000000) : APure Tryz.prog 153 [strs ws] (ints l) :=
  (told_pan ws hl hw).pure (by simp [AV.pureL, AV.pureB]) (by simp [AV.pureB]) fun x hx => by unfold tolR at hx; rw [h] at hx; exact ⟨_, hx, jz⟩
theorem list_pure {w : List UInt8} {l : List Int} (h : listO w = some l) (hw : w.length ≤ 100000) : APure Tryz.prog 157 [S w] (ints l) :=
  (list_pan w hw).pure (by simp [AV.pureL, AV.pureB]) (by simp [AV.pureB]) fun x hx => by unfold lisR at hx; rw [h] at hx; exact ⟨_, hx, jz⟩
section dc
variable {r : Option Nat} {nt : Nat} {e0 : Env} {Hc : List AObj} {ops : Array Oper} {fs es : List Nat} {Q : AExit → St → Prop} {i : Nat} {rest : List Oper} {s : St} {d : Option Tmp} {t : TypeId} {p : String} {af : Array Edge} {x y : Operand} {ats : Array TypeId}
theorem dc_told {ws : List (List UInt8)} (hd : dOK nt d = true) (hx : Less (s.op x) (.fn (.func 153) [] [])) (hy : Less (s.op y) (strs ws)) (hl : ws.length ≤ 1000000) (hw : ∀ w ∈ ws, w.length ≤ 1000000) (hq : ∀ (s' : St) w, allO (numO 1) ws = none → s'.df = s.df → Q (.panic (.ifc 181 (.agg [S w]))) s')
    (k : DC ⟨Tryz.prog, r, nt, e0⟩ Hc ops fs es Q (i + 1) rest (s.put d (tolV ws))) : DC ⟨Tryz.prog, r, nt, e0⟩ Hc ops fs es Q i (⟨d, .call ⟨.value x, #[y], ats⟩, t, p, af, none⟩ :: rest) s := by
  cases h : allO (numO 1) ws with
  | some l =>
    rw [tolV_some h] at k
    exact dc_ev hd (ev_call (args := [strs ws]) en153.h hx (told_pure h hl hw) (show LessL [s.op y] [strs ws] from ⟨hy, trivial⟩)) k
  | none =>
    rw [tolV_none h] at k
    exact dc_pan hd (pan_call (args := [strs ws]) en153.h hx (show LessL [s.op y] [strs ws] from ⟨hy, trivial⟩) (told_pan ws hl hw) (fun v hv => by obtain ⟨l, h2, _⟩ := tolR_ret hv; rw [h] at h2; cases h2) (fun v s' hv hdf => by obtain ⟨_, w, rfl⟩ := tolR_pan hv; exact hq s' w h hdf)) k
theorem dc_list {w : List UInt8} (hd : dOK nt d = true) (hx : Less (s.op x) (.fn (.func 157) [] [])) (hy : Less (s.op y) (S w)) (hw : w.length ≤ 100000) (hq : ∀ (s' : St) u, listO w = none → s'.df = s.df → Q (.panic (.ifc 181 (.agg [S u]))) s')
    (k : DC ⟨Tryz.prog, r, nt, e0⟩ Hc ops fs es Q (i + 1) rest (s.put d (lisV w))) : DC ⟨Tryz.prog, r, nt, e0⟩ Hc ops fs es Q i (⟨d, .call ⟨.value x, #[y], ats⟩, t, p, af, none⟩ :: rest) s := by
  cases h : listO w with
  | some l =>
    rw [lisV_some h] at k
    exact dc_ev hd (ev_call (args := [S w]) en157.h hx (list_pure h hw) (show LessL [s.op y] [S w] from ⟨hy, trivial⟩)) k
  | none =>
    rw [lisV_none h] at k
    exact dc_pan hd (pan_call (args := [S w]) en157.h hx (show LessL [s.op y] [S w] from ⟨hy, trivial⟩) (list_pan w hw) (fun v hv => by obtain ⟨l, h2, _⟩ := lisR_ret hv; rw [h] at h2; cases h2) (fun v s' hv hdf => by obtain ⟨_, u, rfl⟩ := lisR_pan hv; exact hq s' u h hdf)) k
end dc
def n1O (w : List UInt8) : Int := (numO 1 w).getD 0
theorem all1 {w : List UInt8} {n : Int} (h : numO 1 w = some n) : allO (numO 1) [w] = some [n] := by unfold allO; rw [h]; rfl
theorem all1_none {w : List UInt8} (h : numO 1 w = none) : allO (numO 1) [w] = none := by unfold allO; rw [h]
theorem ev_told0 {P : Program} {r : Option Nat} {H : List AObj} {ρ : Operand → AV} {d : Option Tmp} {t : TypeId} {p : String} {af : Array Edge} {g : Option (Nat × Bool)} {x y : Operand} {xt et : TypeId} {w : List UInt8} (ht : slElem P xt = some (et, 1)) (hx : Less (ρ x) (tolV [w])) (hy : Less (ρ y) (I 0)) :
    Ev P r ⟨d, .indexAddr xt x y, t, p, af, g⟩ H ρ (.iptr [I (n1O w)]) := by
  cases h : numO 1 w with
  | none => exact ev_bot x (by simp [Op.operands]) (hx.trans (Less.eq (tolV_none (all1_none h))))
  | some n =>
    have e : n1O w = n := by unfold n1O; rw [h]; rfl
    rw [e]
    exact ev_less (ev_index (k := 0) (c := [I n]) ht (hx.trans (Less.eq (tolV_some (all1 h)))) hy rfl rfl) (Less.rfl' _)
theorem midE {r0 : List UInt8} {rs : List (List UInt8)} (f : List UInt8 → List AV) (h : 2 ≤ rs.length) : AV.sl 1 ((((r0 :: rs).map f).take ((r0 :: rs).length - 2)).drop 1) = .sl 1 ((rs.take (rs.length - 2)).map f) := by
  congr 1
  have e1 : (r0 :: rs).length - 2 = (rs.length - 2) + 1 := by simp; omega
  rw [e1]; simp [List.map_take]
@[simp] theorem inE_strt (n : Nat) (l : List (List UInt8)) : AV.inE n (l.map fun x => [S x]).tail = true := by rw [← List.map_tail]; exact inE_map fun x _ => by simp [AV.inL, AV.inB]
theorem sm_read {r0 : List UInt8} {ms : List (List UInt8)} {a1 : Int} {hs : List Int} {q : List Ln} (h0 : topO r0 = some (a1, hs)) (h1 : allO rowQ ms = some q) (b0 : r0.length ≤ 400) (bm : ∀ m ∈ ms, m.length ≤ 400) (bl : ms.length ≤ 401) : SmP ⟨a1, hs, figsOf q, scsOf q⟩ := by
  have hql := (allO_inv h1).1
  have td : TdP ⟨a1, hs, figsOf q, scsOf q⟩ := td_of (h := (a1, hs)) (head_dg h0) fun a ha => by
    obtain ⟨w, _, hw⟩ := allO_mem h1 ha
    exact words_td hw
  have hhl : hs.length ≤ 400 := by
    unfold topO at h0
    split at h0
    · rename_i l hs' hn
      cases h0
      have e1 := (allO_inv hn).1
      have e2 := (cut_len 32 r0).1
      simp at e1; omega
    · cases h0
  have hrow : ∀ x ∈ scsOf q, ∃ m ∈ ms, rowQ m = some (.scn x) := fun x hx => allO_mem h1 (mem_scs hx)
  refine ⟨td, by show hs.length ≤ 1000; omega, Nat.le_trans (figs_le q) (by omega), Nat.le_trans (scs_le q) (by omega), fun x hx l hl => ?_, fun l hl => ?_⟩
  · obtain ⟨m, hm, hw⟩ := hrow x hx
    have := scn_lens hw l hl
    have := bm m hm
    omega
  · unfold linesS at hl
    rcases List.mem_cons.1 hl with rfl | hl
    · have := head_len td
      have e : (⟨a1, hs, figsOf q, scsOf q⟩ : Ply).hts.length = hs.length := rfl
      omega
    · rcases List.mem_append.1 hl with hl | hl
      · obtain ⟨f, hf, rfl⟩ := List.mem_map.1 hl
        have := fig_len (td.fig f hf).2
        omega
      · obtain ⟨x, hx, rfl⟩ := List.mem_map.1 hl
        obtain ⟨m, hm, hw⟩ := hrow x hx
        have e : lnScn x = m := row_line hw
        rw [e]
        have := bm m hm
        omega
theorem fig_side {b c d : List UInt8} (h : sideO b = none) : figO b c d = none := by unfold figO; rw [h]
theorem fig_num {b c d : List UInt8} (h : allO (numO 1) [c, d] = none) : figO b c d = none := by unfold figO; rw [h]; cases sideO b <;> rfl
theorem fig_ok {b c d : List UInt8} {s r h : Int} (h1 : sideO b = some s) (h2 : allO (numO 1) [c, d] = some [r, h]) : figO b c d = some (.fig ⟨s, r, h⟩) := by unfold figO; rw [h1, h2]
theorem scn_1 {b c d e : List UInt8} (h : numO 1 b = none) : scnO b c d e = none := by unfold scnO; rw [h]
theorem scn_2 {b c d e : List UInt8} (h : listO c = none) : scnO b c d e = none := by unfold scnO; rw [h]; cases numO 1 b <;> rfl
theorem scn_3 {b c d e : List UInt8} (h : listO d = none) : scnO b c d e = none := by unfold scnO; rw [h]; cases numO 1 b <;> cases listO c <;> rfl
theorem scn_4 {b c d e : List UInt8} (h : listO e = none) : scnO b c d e = none := by unfold scnO; rw [h]; cases numO 1 b <;> cases listO c <;> cases listO d <;> rfl
theorem scn_ok {b c d e : List UInt8} {k : Int} {m r t : List Int} (h1 : numO 1 b = some k) (h2 : listO c = some m) (h3 : listO d = some r) (h4 : listO e = some t) : scnO b c d e = some (.scn ⟨m, r, k, t⟩) := by unfold scnO; rw [h1, h2, h3, h4]
theorem two {l : List Int} (h : l.length = 2) : ∃ a b, l = [a, b] := by
  match l, h with
  | [a, b], _ => exact ⟨a, b, rfl⟩
theorem parsed_pan (s : List UInt8) (hs0 : s.length ≤ 400) : APan Tryz.prog 107 [S s] (parsR s) := by
  refine APan.of_acall (by simp [AV.pureL, AV.pureB, AV.pureE, pureE_map]) (acall_of (rs := [.cell 2 26]) Tryz.func107 rfl rfl (Nat.le_of_ble_eq_true rfl) fun e0 he0 => ?_)
  refine wz 2 ?_
  refine kz az (split_pure s 10 (by omega)) ?_
  refine vz 1 ?_
  refine sq_nil ?_
  refine aw_seq ?_
  generalize hR0 : cut 10 s = R
  have hRl := cut_len 10 s
  have hRm := cut_mem 10 s
  rw [hR0] at hRl hRm
  refine wz 4 ?_
  refine sq_call (args := [B _, S s]) rfl en152.h jz ⟨jz, jz, trivial⟩ (sure_pan _ _ _) ?_ ?_
  rotate_left
  ·(rintro v _ ⟨rfl, (⟨_, h⟩ | ⟨hb, h⟩)⟩ <;> cases h; exact ⟨rfl, .pan (.ifc 181 (.agg [S _])), parsR_none (few_none (by simp only [hR0]; simp at hb; omega)) _, rfl, jz⟩)
  rintro v _ ⟨rfl, (⟨hb1, h⟩ | ⟨_, h⟩)⟩ <;> cases h
  refine sq_nil ?_
  refine aw_seq ?_
  obtain ⟨r0, rs, rfl⟩ : ∃ r0 rs, R = r0 :: rs := by rcases R with _ | ⟨r0, rs⟩; (simp at hb1); exact ⟨r0, rs, rfl⟩
  have hR := hR0
  have hr0 := hRm r0 (by simp)
  have hrs2 : 2 ≤ rs.length := by simp at hb1; omega
  have hrsl : rs.length ≤ s.length := by have h := hRl.1; simp only [List.length_cons] at h; omega
  have hMl : (rs.take (rs.length - 2)).length ≤ rs.length := by rw [List.length_take]; omega
  refine wz 1 ?_
  refine sq_ev rfl (ev_index_map (k := 0) (xs := r0 :: rs) sl134.h jz jz rfl (by simp)) ?_
  refine wz 1 ?_
  refine kz az (split_pure r0 32 (by omega)) ?_
  refine sq_ev rfl (ev_less (ev_slice (lo := 1) sl134.h jz jz rfl (by simp; have := (cut_len 32 r0).2; omega) (by simp)) (Less.eq (b := strs ((cut 32 r0).drop 1)) (by rw [List.take_of_length_le (by simp)]; simp only [strs, List.map_drop]))) ?_
  refine sq_call (args := [strs ((cut 32 r0).drop 1)]) rfl en153.h jz ⟨jz, trivial⟩ (told_pan ((cut 32 r0).drop 1) (by have := (cut_len 32 r0).1; have := List.length_drop (i := 1) (l := cut 32 r0); omega) (fun w hw => by have := cut_mem 32 r0 _ (List.mem_of_mem_drop hw); omega) _) ?_ ?_
  rotate_left
  ·(rintro v _ ⟨rfl, h⟩; obtain ⟨hn, w, rfl⟩ := tolR_pan h; exact ⟨rfl, .pan (.ifc 181 (.agg [S _])), parsR_none (top_none hR (topO_num hn)) _, rfl, jz⟩)
  rintro v _ ⟨rfl, h⟩; obtain ⟨l0, hn_l0, rfl⟩ := tolR_ret h
  refine wz 5 ?_
  refine sq_call (args := [B _, S s]) rfl en152.h jz ⟨jz, jz, trivial⟩ (sure_pan _ _ _) ?_ ?_
  rotate_left
  ·(rintro v _ ⟨rfl, (⟨_, h⟩ | ⟨hb, h⟩)⟩ <;> cases h; exact ⟨rfl, .pan (.ifc 181 (.agg [S _])), parsR_none (top_none hR (topO_nil (by rw [hn_l0, List.length_eq_zero_iff.1 (show l0.length = 0 by simp at hb; omega)]))) _, rfl, jz⟩)
  rintro v _ ⟨rfl, (⟨hb2, h⟩ | ⟨_, h⟩)⟩ <;> cases h
  refine sq_nil ?_
  refine aw_seq ?_
  obtain ⟨a1, hs, rfl⟩ : ∃ a1 hs, l0 = a1 :: hs := by rcases l0 with _ | ⟨a1, hs⟩; (simp at hb2); exact ⟨a1, hs, rfl⟩
  refine aw_draw 7 mo (by kernel_rfl) ?_
  refine dz 1 ?_
  refine dr_ev rfl (ev_index_map (k := 0) (xs := a1 :: hs) sl22.h jz jz rfl (by simp)) ?_
  refine dz 2 ?_
  refine dr_ev rfl (ev_less (ev_slice (lo := 1) sl22.h jz jz rfl (by simp) (by simp)) (Less.eq (b := ints hs) (by simp; exact List.take_of_length_le (by simp)))) ?_
  refine dz 1 ?_
  refine dr_alloc rfl z26.h ?_
  refine dr_end ?_
  refine wz 5 ?_
  refine sq_ev rfl (ev_less (ev_slice (lo := 1) (hi := (r0 :: rs).length - 2) sl134.h jz jz (less_int (by simp; omega)) (by simp; omega) (by simp; omega)) (Less.eq (b := .sl 1 ((rs.take (rs.length - 2)).map fun p => [S p])) (midE _ hrs2))) ?_
  refine vz 2 ?_
  refine sq_nil ?_
  refine aw_block ?_
  refine aw_sub (sub_token_cell 1 3 [I a1, ints hs] [.raw (.slice none 0 0)] rfl) ?_
  refine aw_sub (sub_token_cell 1 4 [I a1, ints hs, .own 2 3 []] [] rfl) ?_
  refine nz ?_
  refine aw_loopk (ι := { q : List Ln // q.length ≤ (rs.take (rs.length - 2)).length ∧ ∀ i, (h : i < q.length) → (h2 : i < (rs.take (rs.length - 2)).length) → rowQ (rs.take (rs.length - 2))[i] = some q[i] }) [0, 2, 5, 39, 40] (fun g => [(41, I g.1.length)]) (fun H g => ((H.set 1 (.cells [I a1, ints hs, .own 2 3 ((figsOf g.1).map fgC), .own 3 4 ((scsOf g.1).map scC)])).set 2 (.tok ((figsOf g.1).map fgC).length)).set 3 (.tok ((scsOf g.1).map scC).length)) (fun g => (rs.take (rs.length - 2)).length - g.1.length) (⟨[], by simp, by simp⟩) ⟨(by exact less_int (by simp)), jz, jz, jz, jz, jz, trivial⟩ rfl ?_
  rintro ⟨q, hq, hok⟩
  refine nz ?_
  have hfl := figs_le q
  have hsl := scs_le q
  refine wz 1 ?_
  refine iz (fun c_42 c_42' => ?_) (fun c_42 c_42' => ?_)
  ·have hkm : q.length < (rs.take (rs.length - 2)).length := by omega
   refine vz 3 ?_
   refine sq_nil ?_
   refine aw_seq ?_
   generalize hr : (rs.take (rs.length - 2))[q.length] = r
   have hrl : r.length ≤ s.length := hr ▸ hRm _ (List.mem_cons_of_mem _ (List.mem_of_mem_take (List.getElem_mem hkm)))
   refine wz 1 ?_
   refine kz az (split_pure r 32 (by omega)) ?_
   refine vz 1 ?_
   refine sq_nil ?_
   refine aw_block ?_
   refine aw_seq ?_
   generalize hcw : cut 32 r = ws
   have hro : rowQ r = wordsO ws := by unfold rowQ; rw [hcw]
   have hwl : 0 < ws.length := by rw [← hcw]; exact (cut_len 32 r).2
   have hwn : ws.length ≤ r.length + 1 := by rw [← hcw]; exact (cut_len 32 r).1
   have hwm : ∀ w ∈ ws, w.length ≤ r.length := by rw [← hcw]; exact cut_mem 32 r
   refine aw_draw 12 mo (by kernel_rfl) ?_
   refine dz 1 ?_
   refine dr_ev rfl (ev_index_map (k := 0) (xs := ws) sl134.h jz jz rfl hwl) ?_
   refine dz 1 ?_
   refine dkz az (names_pure) ?_
   refine dr_ev rfl (ev_indexv (k := 1) ar185.h ty9.h jz jz rfl (by decide) rfl) ?_
   refine dz 2 ?_
   refine dsz 56 (fun g11_6 g11_6' => ?_) (fun g11_6 g11_6' => ?_)
   ·have hw0 : ws[0] = wFig := by simpa using g11_6
    refine dz 5 ?_
    refine wz 0 ?_
    refine iz (fun c_49 c_49' => ?_) (fun c_49 c_49' => ?_)
    ·obtain ⟨wa, wb, wc, wd, rfl⟩ := four (show ws.length = 4 by simp at c_49; omega)
     obtain rfl : wa = wFig := hw0
     refine wz 0 ?_
     refine aw_draw 6 mo (by kernel_rfl) ?_
     refine dkz az (sides_pure) ?_
     refine dz 1 ?_
     refine dr_ev rfl (ev_less (ev_index_map (k := 1) (xs := [wFig, wb, wc, wd]) sl134.h jz jz rfl (by simp)) (Less.eq (b := .iptr [S wb]) rfl)) ?_
     refine dz 1 ?_
     refine dr_ev rfl (ev_call en155.h jz (indexS_pure [[], wLef, wRig, wEit] wb (by simp)) ⟨jz, jz, trivial⟩) ?_
     refine dz 1 ?_
     refine wz 3 ?_
     refine sq_call (args := [B _, S r]) rfl en152.h jz ⟨jz, jz, trivial⟩ (sure_pan _ _ _) ?_ ?_
     rotate_left
     ·(rintro v _ ⟨rfl, (⟨_, h⟩ | ⟨hb, h⟩)⟩ <;> cases h; exact ⟨rfl, .pan (.ifc 181 (.agg [S _])), parsR_none (bad_none hR (allO_bad hkm (by rw [hr, hro]; rw [words_fig]; exact fig_side (by rcases side_ix wb with ⟨_, h⟩ | ⟨h, _⟩; exact h; (have h7 := of_decide_eq_false hb; omega))))) _, rfl, jz⟩)
     rintro v _ ⟨rfl, (⟨hb3, h⟩ | ⟨_, h⟩)⟩ <;> cases h
     refine sq_nil ?_
     refine aw_seq ?_
     have hsd : sideO wb = some (ixQ (fun x => decide (wb = x)) [[], wLef, wRig, wEit]) := by rcases side_ix wb with ⟨h, _⟩ | ⟨_, h⟩; (have h7 := of_decide_eq_true hb3; omega); exact h
     refine wz 1 ?_
     refine sq_ev rfl (ev_less (ev_slice (lo := 2) sl134.h jz jz rfl (by simp) (by simp)) (Less.eq (b := strs [wc, wd]) rfl)) ?_
     refine sq_call (args := [strs [wc, wd]]) rfl en153.h jz ⟨jz, trivial⟩ (told_pan [wc, wd] (by have := (by simp : [wc, wd].length ≤ 2); omega) (fun w hw => by have := hwm w (by simp at hw; rcases hw with rfl | rfl <;> simp); omega) _) ?_ ?_
     rotate_left
     ·(rintro v _ ⟨rfl, h⟩; obtain ⟨hn, w, rfl⟩ := tolR_pan h; exact ⟨rfl, .pan (.ifc 181 (.agg [S _])), parsR_none (bad_none hR (allO_bad hkm (by rw [hr, hro]; rw [words_fig]; exact fig_num hn))) _, rfl, jz⟩)
     rintro v _ ⟨rfl, h⟩; obtain ⟨n2, hn_n2, rfl⟩ := tolR_ret h
     refine vz 1 ?_
     refine sq_nil ?_
     obtain ⟨c1, d1, rfl⟩ := two ((allO_inv hn_n2).1)
     refine aw_draw 11 mo (by kernel_rfl) ?_
     refine dz 4 ?_
     refine dr_ev rfl (ev_less (ev_index_map (k := 0) (xs := [c1, d1]) sl22.h jz jz rfl (by simp)) (Less.eq (b := .iptr [I c1]) rfl)) ?_
     refine dz 2 ?_
     refine dr_ev rfl (ev_less (ev_index_map (k := 1) (xs := [c1, d1]) sl22.h jz jz rfl (by simp)) (Less.eq (b := .iptr [I d1]) rfl)) ?_
     refine dz 2 ?_
     refine dr_ev rfl (ev_buildSlice (es := [[_, _, _]]) sf23.h rfl rfl rfl rfl) ?_
     refine dr_end ?_
     first | refine sq_append rfl sf23.h Tryz.underlying23 rfl rfl jz (Nat.succ_pos _) (by simp; omega) (by simp; omega) ?_ | refine sq_append rfl sf23.h Tryz.underlying23 rfl rfl (less_slx _ _) (Nat.succ_pos _) (by simp; omega) (by simp; omega) ?_
     refine vz 2 ?_
     refine sq_nil ?_
     first | (rcases hx1 : numO 1 wb with _ | n1; (exact aw_bot 104 (by show Less (tolV _) bot; rw [tolV_none (all1_none hx1)]; exact jz)); rcases hx2 : listO wc with _ | m2; (exact aw_bot 110 (by show Less (lisV _) bot; rw [lisV_none hx2]; exact jz)); rcases hx3 : listO wd with _ | m3; (exact aw_bot 114 (by show Less (lisV _) bot; rw [lisV_none hx3]; exact jz)); rcases hx4 : listO we with _ | m4; (exact aw_bot 118 (by show Less (lisV _) bot; rw [lisV_none hx4]; exact jz))) | skip
     refine wz 2 ?_
     exact ⟨⟨q ++ [.fig ⟨(ixQ (fun x => decide (wb = x)) [[], wLef, wRig, wEit]), c1, d1⟩], by simp only [List.length_append, List.length_singleton]; omega, allO_snoc (hk := hkm) hok hr (by rw [hro, words_fig]; exact fig_ok hsd hn_n2)⟩, by simp only [List.length_append, List.length_singleton]; omega, sb 4 ⟨(by exact less_int (by simp)), jz, jz, jz, jz, jz, trivial⟩ (hH := (by simp only [figs_snoc_f, scs_snoc_f, List.map_append] <;> rfl))⟩
    have hnf : ¬ (ws[0] = wFig ∧ ws.length = 4) := fun h => by simp at c_49; omega
    refine wz 0 ?_
    refine aw_draw 12 mo (by kernel_rfl) ?_
    refine dz 1 ?_
    refine dr_ev rfl (ev_index_map (k := 0) (xs := ws) sl134.h jz jz rfl hwl) ?_
    refine dz 1 ?_
    refine dkz az (names_pure) ?_
    refine dr_ev rfl (ev_indexv (k := 2) ar185.h ty9.h jz jz rfl (by decide) rfl) ?_
    refine dz 2 ?_
    refine dsz 93 (fun g16_6 g16_6' => ?_) (fun g16_6 g16_6' => ?_)
    ·have hw1 : ws[0] = wScn := by simpa using g16_6
     refine dz 5 ?_
     refine wz 0 ?_
     refine iz (fun c_86 c_86' => ?_) (fun c_86 c_86' => ?_)
     ·obtain ⟨wa, wb, wc, wd, we, rfl⟩ := five (show ws.length = 5 by simp at c_86; omega)
      obtain rfl : wa = wScn := hw1
      refine aw_drawc [] [23, 25] _ mo (by kernel_rfl) (HSub.mask [1] 0 _) ?_
      first | refine dc_ev rfl (ev_fieldAddr fo26_3.h jz) ?_ | refine dc_ev rfl (ev_fieldAddr_i fo26_3.h jz) ?_
      refine dc_ev0 rfl (by kernel_rfl) (ev_load jz rfl ty24.h rfl) ?_
      first | refine dc_ev rfl (ev_mv (v := .sl _ _) jz) ?_ | refine dc_ev rfl (ev_mv (v := .own _ _ _) jz) ?_ | refine dc_ev rfl (ev_mv (v := .raw _) jz) ?_ | refine dc_ev rfl (ev_mv (v := .slx _ _) jz) ?_ | refine dc_ev rfl (ev_mv (v := .msl _ _ _ _) jz) ?_
      refine dc_ev rfl (ev_less (ev_index_map (k := 1) (xs := [wScn, wb, wc, wd, we]) sl134.h jz jz rfl (by simp)) (Less.eq (b := .iptr [S wb]) rfl)) ?_
      first | refine dc_ev rfl (ev_load jz rfl ty9.h rfl) ?_ | refine dc_ev rfl (ev_load_i jz ty9.h rfl) ?_
      refine dc_ev rfl (ev_buildSlice (es := [[_]]) sf134.h rfl rfl rfl rfl) ?_
      refine dc_told (ws := [wb]) rfl jz (Less.trans (less_slx _ _) (Less.eq rfl)) (by simp) (fun w hw => by rw [List.mem_singleton] at hw; subst hw; have := hwm w (by simp); omega) (fun s' w hn hdf => by exact ⟨hdf, .pan (.ifc 181 (.agg [S w])), parsR_none (bad_none hR (allO_bad hkm (by rw [hr, hro]; rw [words_scn]; exact scn_1 (by cases h : numO 1 wb with | none => rfl | some n => (rw [all1 h] at hn; cases hn))))) _, rfl, jz⟩) ?_
      refine dc_ev rfl (ev_told0 (w := wb) sl22.h jz jz) ?_
      first | refine dc_ev rfl (ev_load jz rfl ty3.h rfl) ?_ | refine dc_ev rfl (ev_load_i jz ty3.h rfl) ?_
      first | refine dc_ev rfl (ev_mv (v := .sl _ _) jz) ?_ | refine dc_ev rfl (ev_mv (v := .own _ _ _) jz) ?_ | refine dc_ev rfl (ev_mv (v := .raw _) jz) ?_ | refine dc_ev rfl (ev_mv (v := .slx _ _) jz) ?_ | refine dc_ev rfl (ev_mv (v := .msl _ _ _ _) jz) ?_
      refine dc_ev rfl (ev_less (ev_index_map (k := 2) (xs := [wScn, wb, wc, wd, we]) sl134.h jz jz rfl (by simp)) (Less.eq (b := .iptr [S wc]) rfl)) ?_
      first | refine dc_ev rfl (ev_load jz rfl ty9.h rfl) ?_ | refine dc_ev rfl (ev_load_i jz ty9.h rfl) ?_
      refine dc_list (w := wc) rfl jz jz (by have := hwm wc (by simp); omega) (fun s' w hn hdf => by exact ⟨hdf, .pan (.ifc 181 (.agg [S w])), parsR_none (bad_none hR (allO_bad hkm (by rw [hr, hro]; rw [words_scn]; exact scn_2 (hn)))) _, rfl, jz⟩) ?_
      first | refine dc_ev rfl (ev_mv (v := .sl _ _) jz) ?_ | refine dc_ev rfl (ev_mv (v := .own _ _ _) jz) ?_ | refine dc_ev rfl (ev_mv (v := .raw _) jz) ?_ | refine dc_ev rfl (ev_mv (v := .slx _ _) jz) ?_ | refine dc_ev rfl (ev_mv (v := .msl _ _ _ _) jz) ?_
      refine dc_ev rfl (ev_less (ev_index_map (k := 3) (xs := [wScn, wb, wc, wd, we]) sl134.h jz jz rfl (by simp)) (Less.eq (b := .iptr [S wd]) rfl)) ?_
      first | refine dc_ev rfl (ev_load jz rfl ty9.h rfl) ?_ | refine dc_ev rfl (ev_load_i jz ty9.h rfl) ?_
      refine dc_list (w := wd) rfl jz jz (by have := hwm wd (by simp); omega) (fun s' w hn hdf => by exact ⟨hdf, .pan (.ifc 181 (.agg [S w])), parsR_none (bad_none hR (allO_bad hkm (by rw [hr, hro]; rw [words_scn]; exact scn_3 (hn)))) _, rfl, jz⟩) ?_
      first | refine dc_ev rfl (ev_mv (v := .sl _ _) jz) ?_ | refine dc_ev rfl (ev_mv (v := .own _ _ _) jz) ?_ | refine dc_ev rfl (ev_mv (v := .raw _) jz) ?_ | refine dc_ev rfl (ev_mv (v := .slx _ _) jz) ?_ | refine dc_ev rfl (ev_mv (v := .msl _ _ _ _) jz) ?_
      refine dc_ev rfl (ev_less (ev_index_map (k := 4) (xs := [wScn, wb, wc, wd, we]) sl134.h jz jz rfl (by simp)) (Less.eq (b := .iptr [S we]) rfl)) ?_
      first | refine dc_ev rfl (ev_load jz rfl ty9.h rfl) ?_ | refine dc_ev rfl (ev_load_i jz ty9.h rfl) ?_
      refine dc_list (w := we) rfl jz jz (by have := hwm we (by simp); omega) (fun s' w hn hdf => by exact ⟨hdf, .pan (.ifc 181 (.agg [S w])), parsR_none (bad_none hR (allO_bad hkm (by rw [hr, hro]; rw [words_scn]; exact scn_4 (hn)))) _, rfl, jz⟩) ?_
      refine dc_ev rfl (ev_build bi41.h rfl) ?_
      refine dc_ev rfl (ev_buildSlice (es := [[_, _, _, _]]) sf24.h rfl rfl rfl rfl) ?_
      refine dc_eff rfl rfl (eff_append rfl sf24.h Tryz.underlying24 rfl rfl (less_slx _ _) (by simp; omega) (by simp; omega)) (by apply HL.sub; repeat' (first | exact HL.nil _ | apply HL.same | apply HL.tok)) ?_
      first | refine dc_ev rfl (ev_fieldAddr fo26_3.h jz) ?_ | refine dc_ev rfl (ev_fieldAddr_i fo26_3.h jz) ?_
      refine dc_eff rfl rfl (eff_store rfl jz jz rfl rfl ty24.h rfl rfl) (by apply HL.sub; repeat' (first | exact HL.nil _ | apply HL.same | apply HL.tok)) ?_
      refine dc_nil ?_
      first | (rcases hx1 : numO 1 wb with _ | n1; (exact aw_bot 104 (by show Less (tolV _) bot; rw [tolV_none (all1_none hx1)]; exact jz)); rcases hx2 : listO wc with _ | m2; (exact aw_bot 110 (by show Less (lisV _) bot; rw [lisV_none hx2]; exact jz)); rcases hx3 : listO wd with _ | m3; (exact aw_bot 114 (by show Less (lisV _) bot; rw [lisV_none hx3]; exact jz)); rcases hx4 : listO we with _ | m4; (exact aw_bot 118 (by show Less (lisV _) bot; rw [lisV_none hx4]; exact jz))) | skip
      refine wz 2 ?_
      exact ⟨⟨q ++ [.scn ⟨m2, m3, n1, m4⟩], by simp only [List.length_append, List.length_singleton]; omega, allO_snoc (hk := hkm) hok hr (by rw [hro, words_scn]; exact scn_ok hx1 hx2 hx3 hx4)⟩, by simp only [List.length_append, List.length_singleton]; omega, sb 4 ⟨(by exact less_int (by simp)), jz, jz, jz, jz, jz, trivial⟩ (hH := (by simp only [figs_snoc_x, scs_snoc_x, List.map_append, lisV_some hx2, lisV_some hx3, lisV_some hx4, show n1O wb = n1 by unfold n1O; rw [hx1]; rfl] <;> rfl))⟩
     have hns : ¬ (ws[0] = wScn ∧ ws.length = 5) := fun h => by simp at c_86; omega
     refine wz 1 ?_
     refine sq_call (args := [B false, S r]) rfl en152.h jz ⟨jz, jz, trivial⟩ (sure_pan _ _ _) ?_ ?_
     rotate_left
     ·(rintro v _ ⟨rfl, (⟨_, h⟩ | ⟨hb, h⟩)⟩ <;> cases h; exact ⟨rfl, .pan (.ifc 181 (.agg [S _])), parsR_none (bad_none hR (allO_bad hkm (by rw [hr, hro]; exact words_none hwl hnf hns))) _, rfl, jz⟩)
     rintro v _ ⟨rfl, (⟨hb, _⟩ | ⟨_, h⟩)⟩
     ·cases hb
     ·cases h
    have hw1 : ¬ ws[0] = wScn := by simpa using g16_6
    have hns : ¬ (ws[0] = wScn ∧ ws.length = 5) := fun h => hw1 h.1
    refine dz 5 ?_
    refine wz 2 ?_
    refine sq_call (args := [B false, S r]) rfl en152.h jz ⟨jz, jz, trivial⟩ (sure_pan _ _ _) ?_ ?_
    rotate_left
    ·(rintro v _ ⟨rfl, (⟨_, h⟩ | ⟨hb, h⟩)⟩ <;> cases h; exact ⟨rfl, .pan (.ifc 181 (.agg [S _])), parsR_none (bad_none hR (allO_bad hkm (by rw [hr, hro]; exact words_none hwl hnf hns))) _, rfl, jz⟩)
    rintro v _ ⟨rfl, (⟨hb, _⟩ | ⟨_, h⟩)⟩
    ·cases hb
    ·cases h
   have hw0 : ¬ ws[0] = wFig := by simpa using g11_6
   have hnf : ¬ (ws[0] = wFig ∧ ws.length = 4) := fun h => hw0 h.1
   refine dz 5 ?_
   refine wz 1 ?_
   refine aw_draw 12 mo (by kernel_rfl) ?_
   refine dz 1 ?_
   refine dr_ev rfl (ev_index_map (k := 0) (xs := ws) sl134.h jz jz rfl hwl) ?_
   refine dz 1 ?_
   refine dkz az (names_pure) ?_
   refine dr_ev rfl (ev_indexv (k := 2) ar185.h ty9.h jz jz rfl (by decide) rfl) ?_
   refine dz 2 ?_
   refine dsz 93 (fun g16_6 g16_6' => ?_) (fun g16_6 g16_6' => ?_)
   ·have hw1 : ws[0] = wScn := by simpa using g16_6
    refine dz 5 ?_
    refine wz 0 ?_
    refine iz (fun c_86 c_86' => ?_) (fun c_86 c_86' => ?_)
    ·obtain ⟨wa, wb, wc, wd, we, rfl⟩ := five (show ws.length = 5 by simp at c_86; omega)
     obtain rfl : wa = wScn := hw1
     refine aw_drawc [] [23, 25] _ mo (by kernel_rfl) (HSub.mask [1] 0 _) ?_
     first | refine dc_ev rfl (ev_fieldAddr fo26_3.h jz) ?_ | refine dc_ev rfl (ev_fieldAddr_i fo26_3.h jz) ?_
     refine dc_ev0 rfl (by kernel_rfl) (ev_load jz rfl ty24.h rfl) ?_
     first | refine dc_ev rfl (ev_mv (v := .sl _ _) jz) ?_ | refine dc_ev rfl (ev_mv (v := .own _ _ _) jz) ?_ | refine dc_ev rfl (ev_mv (v := .raw _) jz) ?_ | refine dc_ev rfl (ev_mv (v := .slx _ _) jz) ?_ | refine dc_ev rfl (ev_mv (v := .msl _ _ _ _) jz) ?_
     refine dc_ev rfl (ev_less (ev_index_map (k := 1) (xs := [wScn, wb, wc, wd, we]) sl134.h jz jz rfl (by simp)) (Less.eq (b := .iptr [S wb]) rfl)) ?_
     first | refine dc_ev rfl (ev_load jz rfl ty9.h rfl) ?_ | refine dc_ev rfl (ev_load_i jz ty9.h rfl) ?_
     refine dc_ev rfl (ev_buildSlice (es := [[_]]) sf134.h rfl rfl rfl rfl) ?_
     refine dc_told (ws := [wb]) rfl jz (Less.trans (less_slx _ _) (Less.eq rfl)) (by simp) (fun w hw => by rw [List.mem_singleton] at hw; subst hw; have := hwm w (by simp); omega) (fun s' w hn hdf => by exact ⟨hdf, .pan (.ifc 181 (.agg [S w])), parsR_none (bad_none hR (allO_bad hkm (by rw [hr, hro]; rw [words_scn]; exact scn_1 (by cases h : numO 1 wb with | none => rfl | some n => (rw [all1 h] at hn; cases hn))))) _, rfl, jz⟩) ?_
     refine dc_ev rfl (ev_told0 (w := wb) sl22.h jz jz) ?_
     first | refine dc_ev rfl (ev_load jz rfl ty3.h rfl) ?_ | refine dc_ev rfl (ev_load_i jz ty3.h rfl) ?_
     first | refine dc_ev rfl (ev_mv (v := .sl _ _) jz) ?_ | refine dc_ev rfl (ev_mv (v := .own _ _ _) jz) ?_ | refine dc_ev rfl (ev_mv (v := .raw _) jz) ?_ | refine dc_ev rfl (ev_mv (v := .slx _ _) jz) ?_ | refine dc_ev rfl (ev_mv (v := .msl _ _ _ _) jz) ?_
     refine dc_ev rfl (ev_less (ev_index_map (k := 2) (xs := [wScn, wb, wc, wd, we]) sl134.h jz jz rfl (by simp)) (Less.eq (b := .iptr [S wc]) rfl)) ?_
     first | refine dc_ev rfl (ev_load jz rfl ty9.h rfl) ?_ | refine dc_ev rfl (ev_load_i jz ty9.h rfl) ?_
     refine dc_list (w := wc) rfl jz jz (by have := hwm wc (by simp); omega) (fun s' w hn hdf => by exact ⟨hdf, .pan (.ifc 181 (.agg [S w])), parsR_none (bad_none hR (allO_bad hkm (by rw [hr, hro]; rw [words_scn]; exact scn_2 (hn)))) _, rfl, jz⟩) ?_
     first | refine dc_ev rfl (ev_mv (v := .sl _ _) jz) ?_ | refine dc_ev rfl (ev_mv (v := .own _ _ _) jz) ?_ | refine dc_ev rfl (ev_mv (v := .raw _) jz) ?_ | refine dc_ev rfl (ev_mv (v := .slx _ _) jz) ?_ | refine dc_ev rfl (ev_mv (v := .msl _ _ _ _) jz) ?_
     refine dc_ev rfl (ev_less (ev_index_map (k := 3) (xs := [wScn, wb, wc, wd, we]) sl134.h jz jz rfl (by simp)) (Less.eq (b := .iptr [S wd]) rfl)) ?_
     first | refine dc_ev rfl (ev_load jz rfl ty9.h rfl) ?_ | refine dc_ev rfl (ev_load_i jz ty9.h rfl) ?_
     refine dc_list (w := wd) rfl jz jz (by have := hwm wd (by simp); omega) (fun s' w hn hdf => by exact ⟨hdf, .pan (.ifc 181 (.agg [S w])), parsR_none (bad_none hR (allO_bad hkm (by rw [hr, hro]; rw [words_scn]; exact scn_3 (hn)))) _, rfl, jz⟩) ?_
     first | refine dc_ev rfl (ev_mv (v := .sl _ _) jz) ?_ | refine dc_ev rfl (ev_mv (v := .own _ _ _) jz) ?_ | refine dc_ev rfl (ev_mv (v := .raw _) jz) ?_ | refine dc_ev rfl (ev_mv (v := .slx _ _) jz) ?_ | refine dc_ev rfl (ev_mv (v := .msl _ _ _ _) jz) ?_
     refine dc_ev rfl (ev_less (ev_index_map (k := 4) (xs := [wScn, wb, wc, wd, we]) sl134.h jz jz rfl (by simp)) (Less.eq (b := .iptr [S we]) rfl)) ?_
     first | refine dc_ev rfl (ev_load jz rfl ty9.h rfl) ?_ | refine dc_ev rfl (ev_load_i jz ty9.h rfl) ?_
     refine dc_list (w := we) rfl jz jz (by have := hwm we (by simp); omega) (fun s' w hn hdf => by exact ⟨hdf, .pan (.ifc 181 (.agg [S w])), parsR_none (bad_none hR (allO_bad hkm (by rw [hr, hro]; rw [words_scn]; exact scn_4 (hn)))) _, rfl, jz⟩) ?_
     refine dc_ev rfl (ev_build bi41.h rfl) ?_
     refine dc_ev rfl (ev_buildSlice (es := [[_, _, _, _]]) sf24.h rfl rfl rfl rfl) ?_
     refine dc_eff rfl rfl (eff_append rfl sf24.h Tryz.underlying24 rfl rfl (less_slx _ _) (by simp; omega) (by simp; omega)) (by apply HL.sub; repeat' (first | exact HL.nil _ | apply HL.same | apply HL.tok)) ?_
     first | refine dc_ev rfl (ev_fieldAddr fo26_3.h jz) ?_ | refine dc_ev rfl (ev_fieldAddr_i fo26_3.h jz) ?_
     refine dc_eff rfl rfl (eff_store rfl jz jz rfl rfl ty24.h rfl rfl) (by apply HL.sub; repeat' (first | exact HL.nil _ | apply HL.same | apply HL.tok)) ?_
     refine dc_nil ?_
     first | (rcases hx1 : numO 1 wb with _ | n1; (exact aw_bot 104 (by show Less (tolV _) bot; rw [tolV_none (all1_none hx1)]; exact jz)); rcases hx2 : listO wc with _ | m2; (exact aw_bot 110 (by show Less (lisV _) bot; rw [lisV_none hx2]; exact jz)); rcases hx3 : listO wd with _ | m3; (exact aw_bot 114 (by show Less (lisV _) bot; rw [lisV_none hx3]; exact jz)); rcases hx4 : listO we with _ | m4; (exact aw_bot 118 (by show Less (lisV _) bot; rw [lisV_none hx4]; exact jz))) | skip
     refine wz 2 ?_
     exact ⟨⟨q ++ [.scn ⟨m2, m3, n1, m4⟩], by simp only [List.length_append, List.length_singleton]; omega, allO_snoc (hk := hkm) hok hr (by rw [hro, words_scn]; exact scn_ok hx1 hx2 hx3 hx4)⟩, by simp only [List.length_append, List.length_singleton]; omega, sb 4 ⟨(by exact less_int (by simp)), jz, jz, jz, jz, jz, trivial⟩ (hH := (by simp only [figs_snoc_x, scs_snoc_x, List.map_append, lisV_some hx2, lisV_some hx3, lisV_some hx4, show n1O wb = n1 by unfold n1O; rw [hx1]; rfl] <;> rfl))⟩
    have hns : ¬ (ws[0] = wScn ∧ ws.length = 5) := fun h => by simp at c_86; omega
    refine wz 1 ?_
    refine sq_call (args := [B false, S r]) rfl en152.h jz ⟨jz, jz, trivial⟩ (sure_pan _ _ _) ?_ ?_
    rotate_left
    ·(rintro v _ ⟨rfl, (⟨_, h⟩ | ⟨hb, h⟩)⟩ <;> cases h; exact ⟨rfl, .pan (.ifc 181 (.agg [S _])), parsR_none (bad_none hR (allO_bad hkm (by rw [hr, hro]; exact words_none hwl hnf hns))) _, rfl, jz⟩)
    rintro v _ ⟨rfl, (⟨hb, _⟩ | ⟨_, h⟩)⟩
    ·cases hb
    ·cases h
   have hw1 : ¬ ws[0] = wScn := by simpa using g16_6
   have hns : ¬ (ws[0] = wScn ∧ ws.length = 5) := fun h => hw1 h.1
   refine dz 5 ?_
   refine wz 2 ?_
   refine sq_call (args := [B false, S r]) rfl en152.h jz ⟨jz, jz, trivial⟩ (sure_pan _ _ _) ?_ ?_
   rotate_left
   ·(rintro v _ ⟨rfl, (⟨_, h⟩ | ⟨hb, h⟩)⟩ <;> cases h; exact ⟨rfl, .pan (.ifc 181 (.agg [S _])), parsR_none (bad_none hR (allO_bad hkm (by rw [hr, hro]; exact words_none hwl hnf hns))) _, rfl, jz⟩)
   rintro v _ ⟨rfl, (⟨hb, _⟩ | ⟨_, h⟩)⟩
   ·cases hb
   ·cases h
  have hqe : q.length = (rs.take (rs.length - 2)).length := by omega
  have hqs : allO rowQ (rs.take (rs.length - 2)) = some q := allO_ok hqe (fun i h h2 => hok i h h2)
  have hh0 : topO r0 = some (a1, hs) := topO_ok hn_l0
  have sm0 := sm_read hh0 hqs (by omega) (fun m hm => Nat.le_trans (hRm m (List.mem_cons_of_mem _ (List.mem_of_mem_take hm))) hs0) (by omega)
  obtain ⟨b, hP⟩ : ∃ b : Ply, b = ⟨a1, hs, figsOf q, scsOf q⟩ := ⟨_, rfl⟩
  have hp0 : rowsS s = some b := by rw [hP]; exact all_rows hR hrs2 hh0 hqs
  have sm : SmP b := by rw [hP]; exact sm0
  have hL : Less (.agg [I a1, ints hs, .own 2 3 ((figsOf q).map fgC), .own 3 4 ((scsOf q).map scC)]) (plA b) := by rw [hP]; exact less_agg ⟨jz, jz, less_own _ _ _, less_own _ _ _, trivial⟩
  refine wz 1 ?_
  refine sq_ev rfl (ev_call en104.h jz (sheet_pure sm) ⟨hL, trivial⟩) ?_
  refine wz 3 ?_
  refine sq_call (args := [B _, S s]) rfl en152.h jz ⟨jz, jz, trivial⟩ (sure_pan _ _ _) ?_ ?_
  rotate_left
  ·(rintro v _ ⟨rfl, (⟨_, h⟩ | ⟨hb, h⟩)⟩ <;> cases h; exact ⟨rfl, .pan (.ifc 181 (.agg [S _])), parsR_none (by unfold parseS; rw [hp0]; simp only; rw [if_neg (by simpa using hb)]) _, rfl, jz⟩)
  rintro v _ ⟨rfl, (⟨hb4, h⟩ | ⟨_, h⟩)⟩ <;> cases h
  refine wz 2 ?_
  exact retQ_any (vs := [.agg _]) rfl rfl ⟨resVar_cell rfl rfl ty26.h rfl, trivial⟩ (⟨.ret (plA b), parsR_some (by unfold parseS; rw [hp0]; simp only; rw [if_pos (by simpa using hb4)]), by simp [ARes.pureB, AV.pureL, AV.pureB, AV.pureE, pureE_map], hL⟩)
end Go.Proofs.YtfmpabgblbbcdaaGreatDoor
namespace Go.Proofs.YtfmpabgblbbcdaaGreatDoor
open Go Go.Ab Ni St
open Hd hiding sz
instance en106 : EnT Tryz.prog 106 := ⟨Ent.of Tryz.func106 (by kernel_rfl) rfl⟩
instance en107 : EnT Tryz.prog 107 := ⟨Ent.of Tryz.func107 (by kernel_rfl) rfl⟩
abbrev ply0 : Ply := ⟨0, [], [], []⟩
abbrev z0 : List AV := [I 0, .raw (.slice none 0 0), .raw (.slice none 0 0), .raw (.slice none 0 0)]
theorem less_ply0 : Less (.agg z0) (plA ply0) := less_agg ⟨jz, less_nil 1, less_nil 3, less_nil 4, trivial⟩
def readE (s : List UInt8) : Ply × Int := if 400 < s.length then (ply0, 3) else match parseS s with
  | some p => if plOK p = true then (p, 0) else (ply0, 2)
  | none => (ply0, 4)
abbrev readAV (s : List UInt8) : AV := .tup [plA (readE s).1, I (readE s).2]
theorem readAV_pure (s : List UInt8) : (readAV s).pureB = true := by simp [AV.pureL, AV.pureB, AV.pureE, pureE_map]
theorem readE_long {s : List UInt8} (h : 400 < s.length) : readE s = (ply0, 3) := by unfold readE; rw [if_pos h]
theorem readE_none {s : List UInt8} (h : ¬ 400 < s.length) (h2 : parseS s = none) : readE s = (ply0, 4) := by unfold readE; rw [if_neg h, h2]
theorem readE_bad {s : List UInt8} {p : Ply} (h : ¬ 400 < s.length) (h2 : parseS s = some p) (h3 : plOK p = false) : readE s = (ply0, 2) := by unfold readE; rw [if_neg h, h2]; simp only; rw [if_neg (by rw [h3]; simp)]
theorem readE_ok {s : List UInt8} {p : Ply} (h : ¬ 400 < s.length) (h2 : parseS s = some p) (h3 : plOK p = true) : readE s = (p, 0) := by unfold readE; rw [if_neg h, h2]; simp only; rw [if_pos h3]
theorem parse_sm {s : List UInt8} {p : Ply} (hs : s.length ≤ 400) (h : parseS s = some p) : SmP p := by
  unfold parseS at h
  split at h
  · rename_i p' hr
    split at h
    · cases h
      unfold rowsS at hr
      split at hr
      · rename_i r0 rs hc
        have hl := cut_len 10 s
        have hm := cut_mem 10 s
        rw [hc] at hl hm
        simp only [List.length_cons] at hl
        split at hr
        · split at hr
          · rename_i h0 q h1 h2
            cases hr
            refine sm_read (a1 := h0.1) (hs := h0.2) h1 h2 ?_ ?_ ?_
            · have := hm r0 (by simp); omega
            · intro m hmm; have := hm m (List.mem_cons_of_mem _ (List.mem_of_mem_take hmm)); omega
            · rw [List.length_take]; omega
          · cases hr
        · cases hr
      · cases hr
    · cases h
  · cases h
theorem parsR_ret {s : List UInt8} {r : Ply} {v : AV} (hp : parseS s = some r) (h : parsR s (.ret v)) : v = plA r := by unfold parsR at h; rw [hp] at h; cases h; rfl
theorem parsR_yes {s : List UInt8} {r : Ply} {v : AV} (hp : parseS s = some r) (h : parsR s (.pan v)) : False := by unfold parsR at h; rw [hp] at h; cases h
theorem parsR_no {s : List UInt8} {v : AV} (hp : parseS s = none) (h : parsR s (.ret v)) : False := by unfold parsR at h; rw [hp] at h; obtain ⟨w, h⟩ := h; cases h
theorem parsR_pan {s : List UInt8} {v : AV} (hp : parseS s = none) (h : parsR s (.pan v)) : ∃ w, v = .ifc 181 (.agg [S w]) := by unfold parsR at h; rw [hp] at h; obtain ⟨w, h⟩ := h; cases h; exact ⟨w, rfl⟩
theorem read1_yes {s : List UInt8} {r : Ply} {i j : Nat} {H : List AObj} (hs : s.length ≤ 400) (hp : parseS s = some r) (hi : H[i]? = some (.cells [S s])) (hj : H[j]? = some (.cells z0)) :
    ACall Tryz.prog 106 [.ptr i 0, .ptr j 0] H fun x H' => H' = H.set j (.cells (plC r)) ∧ x = .ret (.tup []) := by
  refine acall_of (rs := []) Tryz.func106 rfl rfl (Nat.le_of_ble_eq_true rfl) fun e0 he0 => ?_
  refine aw_region (sq_ev rfl (ev_load jz hi ty9.h rfl) ?_)
  refine sq_call (first := []) (cap := []) (args := [S s]) rfl en107.h jz ⟨jz, trivial⟩ (parsed_pan s hs H) ?_ ?_
  · rintro v _ ⟨rfl, hR⟩
    obtain rfl := parsR_ret hp hR
    refine sq_store (j := j) (off := 0) rfl jz jz rfl hj ty26.h rfl rfl ?_
    refine sq_nil ?_
    exact ⟨rfl, .tup [], rfl, rfl, rfl⟩
  · rintro v _ ⟨rfl, hR⟩
    exact (parsR_yes hp hR).elim
theorem read1_no {s : List UInt8} {i j : Nat} {H : List AObj} (hs : s.length ≤ 400) (hp : parseS s = none) (hi : H[i]? = some (.cells [S s])) :
    ACall Tryz.prog 106 [.ptr i 0, .ptr j 0] H fun x H' => H' = H ∧ ∃ w, x = .pan (.ifc 181 (.agg [S w])) := by
  refine acall_of (rs := []) Tryz.func106 rfl rfl (Nat.le_of_ble_eq_true rfl) fun e0 he0 => ?_
  refine aw_region (sq_ev rfl (ev_load jz hi ty9.h rfl) ?_)
  refine sq_call (first := []) (cap := []) (args := [S s]) rfl en107.h jz ⟨jz, trivial⟩ (parsed_pan s hs H) ?_ ?_
  · rintro v _ ⟨rfl, hR⟩
    exact (parsR_no hp hR).elim
  · rintro v _ ⟨rfl, hR⟩
    obtain ⟨w, rfl⟩ := parsR_pan hp hR
    exact ⟨rfl, rfl, w, rfl⟩
theorem attread_yes {s : List UInt8} {r : Ply} {i j : Nat} {H : List AObj} (hs : s.length ≤ 400) (hp : parseS s = some r) (hi : H[i]? = some (.cells [S s])) (hj : H[j]? = some (.cells z0)) (hin : objsIn H.length (H.set j (.cells (plC r))) = true) :
    ACall Tryz.prog 105 [.fn (.func 106) [] [.ptr i 0, .ptr j 0]] H fun x H' => H' = H.set j (.cells (plC r)) ∧ x = .ret (.tup [.agg [I 0, I 0], I 0]) := by
  refine ACall.drop (H1 := H.set j (.cells (plC r))) (R := fun x => x = .ret (.tup [.agg [I 0, I 0], I 0])) ?_ (by simp) (by simpa using hin) (fun x hx => by subst hx; rfl)
  refine (attempt_call (first := []) (caps := [.ptr i 0, .ptr j 0]) (Rd := fun x H1 => H1 = H.set j (.cells (plC r)) ∧ x = .ret (.tup [])) en106.h
    ((read1_yes hs hp (i := i) (j := j) (lookL hi) (lookL hj)).mono ?_)).mono ?_
  · rintro x _ ⟨rfl, rfl⟩
    exact ⟨H.set j (.cells (plC r)), [], by rw [setL (lt_of_get? hj)]; simp, by simp, ⟨rfl, rfl⟩, _, Gave.ret _⟩
  · rintro x H' ⟨y, v, H1, X, rfl, hg, ⟨rfl, rfl⟩, rfl⟩
    refine ⟨⟨X, rfl⟩, ?_⟩
    cases hg; rfl
theorem attread_no {s : List UInt8} {i j : Nat} {H : List AObj} (hs : s.length ≤ 400) (hp : parseS s = none) (hi : H[i]? = some (.cells [S s])) (hin : objsIn H.length H = true) :
    ACall Tryz.prog 105 [.fn (.func 106) [] [.ptr i 0, .ptr j 0]] H fun x H' => H' = H ∧ x = .ret (.tup [.agg [I 0, I 0], I 4]) := by
  refine ACall.drop (R := fun x => x = .ret (.tup [.agg [I 0, I 0], I 4])) ?_ (Nat.le_refl _) hin (fun x hx => by subst hx; rfl)
  refine (attempt_call (first := []) (caps := [.ptr i 0, .ptr j 0]) (Rd := fun x H1 => H1 = H ∧ ∃ w, x = .pan (.ifc 181 (.agg [S w]))) en106.h
    ((read1_no hs hp (i := i) (j := j) (lookL hi)).mono ?_)).mono ?_
  · rintro x _ ⟨rfl, w, rfl⟩
    exact ⟨H, [], by simp, rfl, ⟨rfl, w, rfl⟩, _, Gave.text (S w) rfl⟩
  · rintro x H' ⟨y, v, H1, X, rfl, hg, ⟨rfl, w, rfl⟩, rfl⟩
    refine ⟨⟨X, rfl⟩, ?_⟩
    cases hg; rfl
theorem readL_pure (s : List UInt8) (hs : 400 < s.length) : APure Tryz.prog 52 [S s] (readAV s) := by
  refine ap Tryz.func52 (fun e0 he0 => ?_) (hr := readAV_pure s)
  refine wz 6 ?_
  refine iz (fun c_9 c_9' => ?_) (fun c_9 c_9' => ?_)
  ·refine wz 3 ?_
   exact retQ_res (vs := [.agg _, .raw _]) rfl rfl ⟨resVar_cell rfl rfl ty26.h rfl, resVar_tmp _ _ _, trivial⟩ (Less.trans (b := .tup [plA ply0, I 3]) (less_tup ⟨less_ply0, jz, trivial⟩) (Less.eq (by rw [readAV, readE_long hs])))
  exfalso; omega
theorem readN_pure (s : List UInt8) (hs : ¬ 400 < s.length) (hp : parseS s = none) : APure Tryz.prog 52 [S s] (readAV s) := by
  refine ap Tryz.func52 (fun e0 he0 => ?_) (hr := readAV_pure s)
  refine wz 6 ?_
  refine iz (fun c_9 c_9' => ?_) (fun c_9 c_9' => ?_)
  ·exfalso; omega
  refine wz 2 ?_
  refine sq_call (args := [.fn (.func 106) [] [.ptr 0 0, .ptr 2 0]]) rfl en105.h jz ⟨jz, trivial⟩ (attread_no (H := [.cells [S s], .cells z0, .cells z0]) (i := 0) (j := 2) (by omega) hp rfl (by simp [objsIn, AObj.inB, AV.inB, AV.inL, AV.inE, inE_map])) ?_ (by rintro v H' ⟨_, h⟩; cases h)
  rintro _ _ ⟨rfl, h⟩; cases h
  refine wz 8 ?_
  refine iz (fun c_17 c_17' => ?_) (fun c_17 c_17' => ?_)
  ·refine wz 4 ?_
   exact retQ_res (vs := [.agg _, .raw _]) rfl rfl ⟨resVar_cell rfl rfl ty26.h rfl, resVar_tmp _ _ _, trivial⟩ (Less.trans (b := .tup [plA ply0, I 4]) (less_tup ⟨less_ply0, jz, trivial⟩) (Less.eq (by rw [readAV, readE_none hs hp])))
  exfalso; simp at c_17
theorem readS_pure (s : List UInt8) (r : Ply) (hs : ¬ 400 < s.length) (hp : parseS s = some r) : APure Tryz.prog 52 [S s] (readAV s) := by
  refine ap Tryz.func52 (fun e0 he0 => ?_) (hr := readAV_pure s)
  refine aw_seq ?_
  have sm := parse_sm (by omega) hp
  refine wz 6 ?_
  refine iz (fun c_9 c_9' => ?_) (fun c_9 c_9' => ?_)
  ·exfalso; omega
  refine wz 2 ?_
  refine sq_call (args := [.fn (.func 106) [] [.ptr 0 0, .ptr 2 0]]) rfl en105.h jz ⟨jz, trivial⟩ (attread_yes (H := [.cells [S s], .cells z0, .cells z0]) (i := 0) (j := 2) (by omega) hp rfl rfl (by simp [objsIn, AObj.inB, AV.inB, AV.inL, AV.inE, inE_map])) ?_ (by rintro v H' ⟨_, h⟩; cases h)
  rintro _ _ ⟨rfl, h⟩; cases h
  refine wz 8 ?_
  refine iz (fun c_17 c_17' => ?_) (fun c_17 c_17' => ?_)
  ·exfalso; simp at c_17
  refine wz 1 ?_
  refine kz az (isplay_pure r (by have := sm.nh; omega) (by have := sm.nf; omega) (by have := sm.ns; omega) (fun x hx => ⟨by have := (sm.ll x hx x.moved (by simp)).1; omega, by have := (sm.ll x hx x.rest (by simp)).1; omega, by have := (sm.ll x hx x.taken (by simp)).1; omega⟩)) ?_
  refine wz 1 ?_
  refine iz (fun c_22 c_22' => ?_) (fun c_22 c_22' => ?_)
  ·refine wz 3 ?_
   exact retQ_res (vs := [.agg _, .raw _]) rfl rfl ⟨resVar_cell rfl rfl ty26.h rfl, resVar_tmp _ _ _, trivial⟩ (Less.trans (b := .tup [plA ply0, I 2]) (less_tup ⟨less_ply0, jz, trivial⟩) (Less.eq (by rw [readAV, readE_bad hs hp (by simpa using c_22)])))
  refine wz 3 ?_
  exact retQ_res (vs := [.agg _, .raw _]) rfl rfl ⟨resVar_cell rfl rfl ty26.h rfl, resVar_tmp _ _ _, trivial⟩ (Less.trans (b := .tup [plA r, I 0]) (less_tup ⟨jz, jz, trivial⟩) (Less.eq (by rw [readAV, readE_ok hs hp (by simpa using c_22)])))
/-- **Read.** -/
theorem read_pure (s : List UInt8) : APure Tryz.prog 52 [S s] (readAV s) := by
  by_cases hs : 400 < s.length
  · exact readL_pure s hs
  · cases hp : parseS s with
    | none => exact readN_pure s hs hp
    | some b => exact readS_pure s b hs hp
end Go.Proofs.YtfmpabgblbbcdaaGreatDoor
namespace Go.Proofs.YtfmpabgblbbcdaaGreatDoor
open Go Go.Ab Ni St
open Hd hiding sz
instance en108 : EnT Tryz.prog 108 := ⟨Ent.of Tryz.func108 (by kernel_rfl) rfl⟩
instance en109 : EnT Tryz.prog 109 := ⟨Ent.of Tryz.func109 (by kernel_rfl) rfl⟩
instance en110 : EnT Tryz.prog 110 := ⟨Ent.of Tryz.func110 (by kernel_rfl) rfl⟩
instance en111 : EnT Tryz.prog 111 := ⟨Ent.of Tryz.func111 (by kernel_rfl) rfl⟩
instance en158 : EnT Tryz.prog 158 := ⟨Ent.of Tryz.func158 (by kernel_rfl) rfl⟩
instance en28 : EnT Tryz.prog 28 := ⟨Ent.of Tryz.func28 (by kernel_rfl) rfl⟩
instance en32 : EnT Tryz.prog 32 := ⟨Ent.of Tryz.func32 (by kernel_rfl) rfl⟩
instance en53 : EnT Tryz.prog 53 := ⟨Ent.of Tryz.func53 (by kernel_rfl) rfl⟩
instance en64 : EnT Tryz.prog 64 := ⟨Ent.of Tryz.func64 (by kernel_rfl) rfl⟩
instance sf77 : SlS Tryz.prog 77 5 1 1 := ⟨SlFact.of (by kernel_rfl)⟩
instance sl35 : SlE Tryz.prog 35 94 1 := ⟨by kernel_rfl⟩
instance ty94 : TyF Tryz.prog 94 false 1 := ⟨by kernel_rfl⟩
instance ud77 : UnD Tryz.prog 77 (.slice 5) := ⟨Tryz.underlying77⟩
theorem same_ext {α : Type} {a b : List α} (hl : a.length = b.length) (h : ∀ i, (h1 : i < a.length) → (h2 : i < b.length) → a[i] = b[i]) : a = b := List.ext_getElem hl h
theorem qn10 {n : Nat} (h : n ≤ 1000000) : IntKind.i64.wrap ((n : Int).tdiv 10) = ((n / 10 : Nat) : Int) := by rw [qd (by omega) (by omega) (by decide)]; try omega
theorem rn10 {n : Nat} : ((n : Int).tmod 10) = ((n % 10 : Nat) : Int) := by rw [Int.tmod_eq_emod_of_nonneg (by omega)]; try omega
theorem itoa_nat (n : Nat) : Lib.itoa n = Lib.decDigits n := by unfold Lib.itoa; rw [if_neg (by omega)]; rfl
theorem dd_small {n : Nat} (h : n < 10) : Lib.decDigits n = [UInt8.ofNat (48 + n)] := by rw [Lib.decDigits, dif_pos h]
theorem dd_big {n : Nat} (h : ¬ n < 10) : Lib.decDigits n = Lib.decDigits (n / 10) ++ [UInt8.ofNat (48 + n % 10)] := by rw [Lib.decDigits, dif_neg h]
theorem digit_eq (n : Nat) : UInt8.ofNat ((48 + (n : Int)).toNat) = UInt8.ofNat (48 + n) := by congr 1; try omega
theorem itoas_len (l : List Int) (hb : ∀ n ∈ l, 0 ≤ n ∧ n ≤ 1000000) (k : Nat) : (preL ((l.take k).map Lib.itoa)).length ≤ 9 * k := by
  have h := prelen (B := 8) (ws := (l.take k).map Lib.itoa) (fun w hw => by
    obtain ⟨n, hn, rfl⟩ := List.mem_map.1 hw
    exact itoa_len (by have := hb n (List.mem_of_mem_take hn); omega))
  rw [List.length_map, List.length_take] at h
  unfold preL; omega
def jnW (l : List Int) (k : Nat) : List UInt8 := Lib.join (wordsOf (l.take k)) [44]
theorem join_cc : ∀ (w x : List UInt8) (l : List (List UInt8)), Lib.join (l ++ [w, x]) [44] = Lib.join (l ++ [w]) [44] ++ 44 :: x
  | w, x, [] => by simp [Lib.join, List.intercalate, List.intersperse]
  | w, x, a :: l => by
    have h1 : (a :: l) ++ [w, x] = a :: (l ++ [w, x]) := rfl
    have h2 : (a :: l) ++ [w] = a :: (l ++ [w]) := rfl
    rw [h1, h2, joinc_eq, joinc_eq]; simp
theorem jnW_first {l : List Int} {k : Nat} (h : k < l.length) (h0 : k = 0) : jnW l k ++ Lib.itoa l[k] = jnW l (k + 1) := by
  subst h0
  unfold jnW; rw [wordsOf_succ h]; simp [wordsOf, Lib.join, List.intercalate, List.intersperse]
theorem jnW_more {l : List Int} {k : Nat} (h : k < l.length) (h0 : 0 < k) : jnW l k ++ [44] ++ Lib.itoa l[k] = jnW l (k + 1) := by
  obtain ⟨j, rfl⟩ : ∃ j, k = j + 1 := ⟨k - 1, by omega⟩
  unfold jnW; rw [wordsOf_succ h, wordsOf_succ (show j < l.length by omega), List.append_assoc]
  have e : wordsOf (l.take j) ++ [Lib.itoa l[j]] ++ [Lib.itoa l[j + 1]] = wordsOf (l.take j) ++ [Lib.itoa l[j], Lib.itoa l[j + 1]] := by simp
  rw [e, join_cc]; simp
theorem jnW_all {l : List Int} (h : 0 < l.length) : jnW l l.length = listW l := by unfold jnW; rw [List.take_length, listW_of h]
theorem jnW_len (l : List Int) (hb : ∀ n ∈ l, 0 ≤ n ∧ n ≤ 1000000) : ∀ (k : Nat), k ≤ l.length → (jnW l k).length ≤ 9 * k
  | 0, _ => by simp [jnW, wordsOf, Lib.join, List.intercalate]
  | k + 1, h => by
    have ih := jnW_len l hb k (by omega)
    have hi := itoa_len (n := l[k]'(by omega)) (by have := hb _ (List.getElem_mem (show k < l.length by omega)); omega)
    by_cases h0 : k = 0
    · rw [← jnW_first (by omega) h0, List.length_append]; omega
    · rw [← jnW_more (by omega) (by omega)]; simp only [List.length_append, List.length_cons, List.length_nil]; omega
theorem dg_pos {l : List Int} (h : ∀ n ∈ l, Dg n) : ∀ n ∈ l, 0 ≤ n ∧ n ≤ 1000000 := fun n hn => by have := h n hn; unfold Dg at this; omega
theorem lnFig_eq (f : Fgr) : lnFig f = wFig ++ [32] ++ sideW f.side ++ preL ([f.rank, f.hands].map Lib.itoa) := by unfold lnFig; rw [join_eq]; simp [preL, wordsOf]
theorem lnHead_eq (p : Ply) : lnHead p = wStem ++ preL ((p.left :: p.hts).map Lib.itoa) := by unfold lnHead; rw [join_eq]; rfl
theorem lnScn_eq (x : Scn) : lnScn x = wScn ++ preL ([x.knocks].map Lib.itoa) ++ [32] ++ listW x.moved ++ [32] ++ listW x.rest ++ [32] ++ listW x.taken := by unfold lnScn; rw [join_eq]; simp [preL]
theorem sideW_len (k : Int) : (sideW k).length ≤ 6 := by unfold sideW; split; decide; split <;> decide
theorem same_pure (a b : List Int) (ha : a.length ≤ 1000000) (hb : b.length ≤ 1000000) : APure Tryz.prog 32 [ints a, ints b] (B (decide (a = b))) := by
  refine ap Tryz.func32 (fun e0 he0 => ?_)
  refine wz 6 ?_
  refine iz (fun c_10 c_10' => ?_) (fun c_10 c_10' => ?_)
  ·refine wz 1 ?_
   exact rz rfl (Less.eq (by rw [decide_eq_false (fun h => by rw [h] at c_10'; exact c_10' rfl)]))
  have hlen : a.length = b.length := by omega
  refine wz 1 ?_
  refine aw_loopk (ι := { k : Nat // k ≤ a.length ∧ ∀ i, (h1 : i < a.length) → (h2 : i < b.length) → i < k → a[i] = b[i] }) [0, 1] (fun g => [(5, I g.1)]) (fun H g => H) (fun g => a.length - g.1) (⟨0, Nat.zero_le _, by omega⟩) ⟨jz, jz, jz, trivial⟩ rfl ?_
  rintro ⟨k, hk, hok⟩
  refine nz ?_
  refine wz 4 ?_
  refine iz (fun c_14 c_14' => ?_) (fun c_14 c_14' => ?_)
  ·have hkL : k < a.length := by omega
   refine wz 0 ?_
   refine aw_draw 9 mo (by kernel_rfl) ?_
   refine dz 9 ?_
   refine wz 0 ?_
   refine iz (fun c_25 c_25' => ?_) (fun c_25 c_25' => ?_)
   ·refine wz 1 ?_
    exact rz rfl (Less.eq (by rw [decide_eq_false (fun h => by subst h; simp at c_25)]))
   refine wz 3 ?_
   exact ⟨⟨k + 1, by omega, fun i h1 h2 h => (by by_cases e : i = k; (subst e; simpa using c_25); exact hok i h1 h2 (by omega))⟩, by simp only; omega, Sub.slots ⟨jz, jz, jz, trivial⟩⟩
  have heq : a = b := same_ext hlen fun i h1 h2 => hok i h1 h2 (by omega)
  refine wz 1 ?_
  exact rz rfl (Less.eq (by rw [decide_eq_true heq]))
theorem sameW_pure (a b : List Int) (ha : a.length ≤ 1000000) (hb : b.length ≤ 1000000) : APure Tryz.prog 28 [ints a, ints b] (B (decide (a = b))) := by
  refine ap Tryz.func28 (fun e0 he0 => ?_)
  refine wz 6 ?_
  refine iz (fun c_10 c_10' => ?_) (fun c_10 c_10' => ?_)
  ·refine wz 1 ?_
   exact rz rfl (Less.eq (by rw [decide_eq_false (fun h => by rw [h] at c_10'; exact c_10' rfl)]))
  have hlen : a.length = b.length := by omega
  refine wz 1 ?_
  refine aw_loopk (ι := { k : Nat // k ≤ a.length ∧ ∀ i, (h1 : i < a.length) → (h2 : i < b.length) → i < k → a[i] = b[i] }) [0, 1] (fun g => [(5, I g.1)]) (fun H g => H) (fun g => a.length - g.1) (⟨0, Nat.zero_le _, by omega⟩) ⟨jz, jz, jz, trivial⟩ rfl ?_
  rintro ⟨k, hk, hok⟩
  refine nz ?_
  refine wz 4 ?_
  refine iz (fun c_14 c_14' => ?_) (fun c_14 c_14' => ?_)
  ·have hkL : k < a.length := by omega
   refine wz 0 ?_
   refine aw_draw 9 mo (by kernel_rfl) ?_
   refine dz 9 ?_
   refine wz 0 ?_
   refine iz (fun c_25 c_25' => ?_) (fun c_25 c_25' => ?_)
   ·refine wz 1 ?_
    exact rz rfl (Less.eq (by rw [decide_eq_false (fun h => by subst h; simp at c_25)]))
   refine wz 3 ?_
   exact ⟨⟨k + 1, by omega, fun i h1 h2 h => (by by_cases e : i = k; (subst e; simpa using c_25); exact hok i h1 h2 (by omega))⟩, by simp only; omega, Sub.slots ⟨jz, jz, jz, trivial⟩⟩
  have heq : a = b := same_ext hlen fun i h1 h2 => hok i h1 h2 (by omega)
  refine wz 1 ?_
  exact rz rfl (Less.eq (by rw [decide_eq_true heq]))
theorem sames_pure (a b : List (List Int)) (ha : a.length ≤ 1000000) (hb : b.length ≤ 1000000) (la : ∀ l ∈ a, l.length ≤ 1000000) (lb : ∀ l ∈ b, l.length ≤ 1000000) : APure Tryz.prog 64 [hds a, hds b] (B (decide (a = b))) := by
  refine ap Tryz.func64 (fun e0 he0 => ?_)
  refine wz 6 ?_
  refine iz (fun c_10 c_10' => ?_) (fun c_10 c_10' => ?_)
  ·refine wz 1 ?_
   exact rz rfl (Less.eq (by rw [decide_eq_false (fun h => by rw [h] at c_10'; exact c_10' rfl)]))
  have hlen : a.length = b.length := by omega
  refine wz 1 ?_
  refine aw_loopk (ι := { k : Nat // k ≤ a.length ∧ ∀ i, (h1 : i < a.length) → (h2 : i < b.length) → i < k → a[i] = b[i] }) [0, 1] (fun g => [(5, I g.1)]) (fun H g => H) (fun g => a.length - g.1) (⟨0, Nat.zero_le _, by omega⟩) ⟨jz, jz, jz, trivial⟩ rfl ?_
  rintro ⟨k, hk, hok⟩
  refine nz ?_
  refine wz 4 ?_
  refine iz (fun c_14 c_14' => ?_) (fun c_14 c_14' => ?_)
  ·have hkL : k < a.length := by omega
   refine wz 0 ?_
   refine aw_draw 10 mo (by kernel_rfl) ?_
   refine dz 8 ?_
   refine dkz az (same_pure _ _ (la _ (List.getElem_mem _)) (lb _ (List.getElem_mem _))) ?_
   refine dz 1 ?_
   refine wz 0 ?_
   refine iz (fun c_26 c_26' => ?_) (fun c_26 c_26' => ?_)
   ·refine wz 1 ?_
    exact rz rfl (Less.eq (by rw [decide_eq_false (fun h => by subst h; simp at c_26)]))
   refine wz 3 ?_
   exact ⟨⟨k + 1, by omega, fun i h1 h2 h => (by by_cases e : i = k; (subst e; simpa using c_26); exact hok i h1 h2 (by omega))⟩, by simp only; omega, Sub.slots ⟨jz, jz, jz, trivial⟩⟩
  have heq : a = b := same_ext hlen fun i h1 h2 => hok i h1 h2 (by omega)
  refine wz 1 ?_
  exact rz rfl (Less.eq (by rw [decide_eq_true heq]))
theorem rdec_pure (n : Nat) : n ≤ 1000000 → APure Tryz.prog 158 [I n] (S (Lib.decDigits n)) := by
  induction n using Nat.strongRecOn with
  | _ n ih =>
  intro hn
  refine ap Tryz.func158 (fun e0 he0 => ?_)
  refine wz 4 ?_
  refine sz 5 (fun g1 g1' => ?_) (fun g1 g1' => ?_)
  ·refine wz 3 ?_
   refine iz (fun c2 c2' => ?_) (fun c2 c2' => ?_)
   ·exfalso; omega
   refine wz 2 ?_
   refine iz (fun c3 c3' => ?_) (fun c3 c3' => ?_)
   ·exfalso; omega
   refine wz 2 ?_
   refine iz (fun c4 c4' => ?_) (fun c4 c4' => ?_)
   ·refine wz 3 ?_
    refine sq_ev rfl (ev_buildSlice (es := [[_]]) sf77.h rfl rfl rfl rfl) ?_
    refine wz 2 ?_
    exact rz rfl (Less.eq (by rw [dd_small (n := n) (by omega)]; simp only [List.map_cons, List.map_nil, digit_eq]))
   refine wz 0 ?_
   refine aw_draw 11 mo (by kernel_rfl) ?_
   refine dz 1 ?_
   refine dr_ev rfl (ev_quo (q := ((n / 10 : Nat) : Int)) jz jz (by decide) (qn10 hn)) ?_
   refine dkz az (ih (n / 10) (by omega) (by omega)) ?_
   refine dz 1 ?_
   refine dr_ev rfl (ev_less (ev_rem jz jz (by decide)) (less_int (by exact rn10))) ?_
   refine dz 2 ?_
   refine dr_ev rfl (ev_buildSlice (es := [[_]]) sf77.h rfl rfl rfl rfl) ?_
   refine dz 1 ?_
   refine dr_ev rfl (ev_catS jz jz (by have := decDigits_len 6 (n / 10) (by omega); simp; omega)) ?_
   refine dz 1 ?_
   refine wz 0 ?_
   exact rz rfl (Less.eq (by rw [dd_big (n := n) (by omega)]; simp only [List.map_cons, List.map_nil, digit_eq]))
  exfalso; omega
theorem rdecimal_pure (n : Int) (h : 0 ≤ n ∧ n ≤ 1000000) : APure Tryz.prog 158 [I n] (S (Lib.itoa n)) := by
  obtain ⟨m, rfl⟩ : ∃ m : Nat, n = m := ⟨n.toNat, by omega⟩
  rw [itoa_nat]
  exact rdec_pure m (by omega)
theorem rrow_pure (w : List UInt8) (l : List Int) (hw : w.length ≤ 1000) (hl : l.length ≤ 10000) (hb : ∀ n ∈ l, 0 ≤ n ∧ n ≤ 1000000) : APure Tryz.prog 108 [S w, ints l] (S (w ++ preL (l.map Lib.itoa))) := by
  refine ap Tryz.func108 (fun e0 he0 => ?_)
  refine wz 2 ?_
  refine aw_loopk (ι := { k : Nat // k ≤ l.length }) [1] (fun i => [(5, I i.1), (0, S (w ++ preL ((l.take i.1).map Lib.itoa)))]) (fun H i => H) (fun i => l.length - i.1) (⟨0, Nat.zero_le _⟩) ⟨jz, Less.eq (by show S w = _; simp [preL]), jz, trivial⟩ rfl ?_
  rintro ⟨k, hk⟩
  refine nz ?_
  have hnl := itoas_len l hb k
  refine wz 4 ?_
  refine iz (fun c_9 c_9' => ?_) (fun c_9 c_9' => ?_)
  ·have hk' : k < l.length := by omega
   have hv := hb _ (List.getElem_mem hk')
   have eL : S (w ++ preL ((l.take k).map Lib.itoa) ++ [32] ++ Lib.itoa l[k]) = S (w ++ preL ((l.take (k + 1)).map Lib.itoa)) := by rw [List.take_succ_eq_append_getElem hk', List.map_append]; simp [preL]
   refine wz 1 ?_
   refine sq_ev rfl (ev_catS jz jz (by simp only [List.length_append, List.length_cons, List.length_nil]; omega)) ?_
   refine wz 4 ?_
   refine kz az (rdecimal_pure _ hv) ?_
   refine sq_ev rfl (ev_catS jz jz (by have := itoa_len (n := l[k]) (by omega); simp only [List.length_append, List.length_cons, List.length_nil]; omega)) ?_
   refine wz 4 ?_
   exact ⟨⟨k + 1, by omega⟩, by simp only; omega, Sub.slots ⟨jz, Less.eq eL, jz, trivial⟩⟩
  obtain rfl : k = l.length := by omega
  refine wz 2 ?_
  exact rz rfl (Less.eq (by simp))
theorem rsealed_pure (ls : List (List UInt8)) (hl : ls.length ≤ 1500) (hb : ∀ l ∈ ls, l.length ≤ 1000) : APure Tryz.prog 111 [strs ls, I 193] (S (sealS ls)) := by
  refine ap Tryz.func111 (fun e0 he0 => ?_)
  refine wz 4 ?_
  refine aw_loopk (ι := { i : Nat // i ≤ ls.length }) [0, 1] (fun i => [(7, I i.1), (5, S (outT ls i.1)), (6, I (ctT ls i.1))]) (fun H i => H) (fun i => ls.length - i.1) (⟨0, Nat.zero_le _⟩) ⟨jz, jz, jz, jz, jz, trivial⟩ rfl ?_
  rintro ⟨i, hi⟩
  refine nz ?_
  have hol := outT_len hb i (by omega)
  have hct := ctT_bd (by omega) hb i (by omega)
  refine wz 4 ?_
  refine iz (fun c_12 c_12' => ?_) (fun c_12 c_12' => ?_)
  ·have hi3 : i < ls.length := by omega
   have hll := hb _ (List.getElem_mem hi3)
   refine wz 1 ?_
   refine aw_loopk (ι := { k : Nat // k ≤ ls[i].length }) [0, 1, 5, 7] (fun k => [(8, I k.1), (6, I (ctT ls i + csT ((i : Int) + 1) ls[i] k.1))]) (fun H k => H) (fun k => ls[i].length - k.1) (⟨0, Nat.zero_le _⟩) ⟨jz, (by exact less_int (by simp [csT])), jz, jz, jz, jz, trivial⟩ rfl ?_
   rintro ⟨k, hk⟩
   refine nz ?_
   have hcs := csT_bd (m := (i : Int) + 1) ⟨by omega, by omega⟩ ls[i] k hk hll
   refine wz 7 ?_
   refine iz (fun c_21 c_21' => ?_) (fun c_21 c_21' => ?_)
   ·have hk' : k < ls[i].length := by omega
    have htb := term_bd (b := ls[i][k]) (j := k) (m := (i : Int) + 1) (by omega) ⟨by omega, by omega⟩
    have hb8 : (ls[i][k]).toNat < 256 := UInt8.toNat_lt _
    have eK : ctT ls i + csT ((i : Int) + 1) ls[i] k + (ls[i][k].toNat : Int) * ((k : Int) + 1) * ((i : Int) + 1) = ctT ls i + csT ((i : Int) + 1) ls[i] (k + 1) := by rw [csT_succ _ hk']; omega
    refine wz 10 ?_
    refine sq_ev rfl (ev_mul jz jz (wr (by omega) (by omega))) ?_
    refine wz 2 ?_
    refine sq_ev rfl (ev_mul jz jz (wr (by omega) (by omega))) ?_
    refine wz 5 ?_
    exact ⟨⟨k + 1, by omega⟩, by simp only; omega, Sub.slots ⟨jz, (by exact less_int eK), jz, jz, jz, jz, trivial⟩⟩
   obtain rfl : k = ls[i].length := by omega
   have eO : S (outT ls i ++ ls[i] ++ [10]) = S (outT ls (i + 1)) := by rw [outT_succ hi3]; simp
   have eC : ctT ls i + csT ((i : Int) + 1) ls[i] ls[i].length = ctT ls (i + 1) := by rw [ctT_succ hi3]; rfl
   refine wz 5 ?_
   refine sq_ev rfl (ev_catS jz jz (by omega)) ?_
   refine wz 5 ?_
   exact ⟨⟨i + 1, by omega⟩, by simp only; omega, Sub.slots ⟨jz, Less.eq eO, (by exact less_int eC), jz, jz, trivial⟩⟩
  obtain rfl : i = ls.length := by omega
  refine wz 2 ?_
  refine sq_ev rfl (ev_less (ev_rem jz jz (by decide)) (less_int (Int.tmod_eq_emod_of_nonneg (by omega)))) ?_
  refine vz 1 ?_
  refine sq_nil ?_
  refine aw_seq ?_
  have i1 := itoa_len (n := ctT ls ls.length % 193 / 100) ⟨by omega, by omega⟩
  have i2 := itoa_len (n := ctT ls ls.length % 193 / 10 % 10) ⟨by omega, by omega⟩
  have i3 := itoa_len (n := ctT ls ls.length % 193 % 10) ⟨by omega, by omega⟩
  refine wz 3 ?_
  refine sq_ev rfl (ev_quo (q := ctT ls ls.length % 193 / 100) jz jz (by decide) (qd (by omega) (by omega) (by decide))) ?_
  refine kz az (rdecimal_pure _ (by omega)) ?_
  refine wz 2 ?_
  refine sq_ev rfl (ev_quo (q := ctT ls ls.length % 193 / 10) jz jz (by decide) (qd (by omega) (by omega) (by decide))) ?_
  refine sq_ev rfl (ev_less (ev_rem jz jz (by decide)) (less_int (Int.tmod_eq_emod_of_nonneg (by omega)))) ?_
  refine kz az (rdecimal_pure _ (by omega)) ?_
  refine wz 2 ?_
  refine sq_ev rfl (ev_less (ev_rem jz jz (by decide)) (less_int (Int.tmod_eq_emod_of_nonneg (by omega)))) ?_
  refine kz az (rdecimal_pure _ (by omega)) ?_
  refine wz 3 ?_
  exact rz rfl (Less.eq (by simp [sealS, digs3]))
theorem rside_pure (k : Int) : APure Tryz.prog 109 [I k] (S (sideW k)) := by
  refine ap Tryz.func109 (fun e0 he0 => ?_)
  refine wz 4 ?_
  refine iz (fun c_4 c_4' => ?_) (fun c_4 c_4' => ?_)
  ·refine wz 1 ?_
   exact rz rfl (Less.eq (by unfold sideW; first | (rw [if_pos (by omega)]; rfl) | (rw [if_neg (by omega), if_pos (by omega)]; rfl) | (rw [if_neg (by omega), if_neg (by omega)]; rfl)))
  refine wz 2 ?_
  refine iz (fun c_6 c_6' => ?_) (fun c_6 c_6' => ?_)
  ·refine wz 1 ?_
   exact rz rfl (Less.eq (by unfold sideW; first | (rw [if_pos (by omega)]; rfl) | (rw [if_neg (by omega), if_pos (by omega)]; rfl) | (rw [if_neg (by omega), if_neg (by omega)]; rfl)))
  refine wz 1 ?_
  exact rz rfl (Less.eq (by unfold sideW; first | (rw [if_pos (by omega)]; rfl) | (rw [if_neg (by omega), if_pos (by omega)]; rfl) | (rw [if_neg (by omega), if_neg (by omega)]; rfl)))
theorem rlisted_pure (l : List Int) (hl : l.length ≤ 10000) (hb : ∀ n ∈ l, 0 ≤ n ∧ n ≤ 1000000) : APure Tryz.prog 110 [ints l] (S (listW l)) := by
  refine ap Tryz.func110 (fun e0 he0 => ?_)
  refine wz 4 ?_
  refine iz (fun c_7 c_7' => ?_) (fun c_7 c_7' => ?_)
  ·refine wz 1 ?_
   exact rz rfl (Less.eq (by rw [← listW_no (l := l) (by omega)]))
  refine wz 2 ?_
  refine aw_loopk (ι := { k : Nat // k ≤ l.length }) [0] (fun i => [(4, I i.1), (3, S (jnW l i.1))]) (fun H i => H) (fun i => l.length - i.1) (⟨0, Nat.zero_le _⟩) ⟨jz, Less.eq (by show S [] = _; simp [jnW, wordsOf, Lib.join, List.intercalate]), jz, trivial⟩ rfl ?_
  rintro ⟨k, hk⟩
  refine nz ?_
  have hnl := jnW_len l hb k hk
  refine wz 4 ?_
  refine iz (fun c_11 c_11' => ?_) (fun c_11 c_11' => ?_)
  ·have hk' : k < l.length := by omega
   have hv := hb _ (List.getElem_mem hk')
   refine wz 2 ?_
   refine iz (fun c_15 c_15' => ?_) (fun c_15 c_15' => ?_)
   ·have eL : S (jnW l k ++ [44] ++ Lib.itoa l[k]) = S (jnW l (k + 1)) := by rw [jnW_more hk' (by omega)]
    refine wz 1 ?_
    refine sq_ev rfl (ev_catS jz jz (by simp only [List.length_append, List.length_cons, List.length_nil]; omega)) ?_
    refine wz 6 ?_
    refine kz az (rdecimal_pure _ hv) ?_
    refine sq_ev rfl (ev_catS jz jz (by have := itoa_len (n := l[k]) (by omega); first | omega | (simp only [List.length_append, List.length_cons, List.length_nil]; omega))) ?_
    refine wz 4 ?_
    exact ⟨⟨k + 1, by omega⟩, by simp only; omega, Sub.slots ⟨jz, Less.eq eL, jz, trivial⟩⟩
   have eL : S (jnW l k ++ Lib.itoa l[k]) = S (jnW l (k + 1)) := by rw [jnW_first hk' (by omega)]
   refine wz 5 ?_
   refine kz az (rdecimal_pure _ hv) ?_
   refine sq_ev rfl (ev_catS jz jz (by have := itoa_len (n := l[k]) (by omega); first | omega | (simp only [List.length_append, List.length_cons, List.length_nil]; omega))) ?_
   refine wz 4 ?_
   exact ⟨⟨k + 1, by omega⟩, by simp only; omega, Sub.slots ⟨jz, Less.eq eL, jz, trivial⟩⟩
  obtain rfl : k = l.length := by omega
  refine wz 2 ?_
  exact rz rfl (Less.eq (by rw [jnW_all (by omega)]))
theorem rprint_pure {p : Ply} (sm : SmP p) : APure Tryz.prog 53 [plA p] (S (textS p)) := by
  refine ap Tryz.func53 (fun e0 he0 => ?_)
  refine vz 2 ?_
  refine sq_nil ?_
  refine aw_seq ?_
  have hnh := sm.nh
  refine wz 2 ?_
  refine sq_ev rfl (ev_buildSlice (es := [[_]]) sf22.h rfl rfl rfl rfl) ?_
  refine wz 2 ?_
  refine sq_ev rfl (ev_append sf22.h Tryz.underlying22 jz jz (by simp <;> omega) (by have := sm.nh; simp <;> omega)) ?_
  refine kz az (rrow_pure wStem (p.left :: p.hts) (by decide) (by have := sm.nh; simp; omega) (dg_pos sm.td.head)) ?_
  refine sq_ev rfl (ev_less (ev_buildSlice (es := [[_]]) sf134.h rfl rfl rfl rfl) (Less.eq (b := .slx 1 [[S (lnHead p)]]) (by rw [lnHead_eq]))) ?_
  refine vz 2 ?_
  refine sq_nil ?_
  refine aw_block ?_
  refine aw_sub (sub_token_slx 3 1 jz) ?_
  refine aw_loopk (ι := { k : Nat // k ≤ p.figs.length }) [1] (fun i => [(4, I i.1), (3, .own 1 1 (((lnHead p :: (p.figs.take i.1).map lnFig)).map fun x => [S x]))]) (fun H i => H.set 1 (.tok (((lnHead p :: (p.figs.take i.1).map lnFig)).map fun x => [S x]).length)) (fun i => p.figs.length - i.1) (⟨0, Nat.zero_le _⟩) ⟨jz, jz, jz, trivial⟩ rfl ?_
  rintro ⟨k, hk⟩
  refine nz ?_
  have hsl := sm.nf
  refine wz 5 ?_
  refine iz (fun c_20 c_20' => ?_) (fun c_20 c_20' => ?_)
  ·have hkf : k < p.figs.length := by omega
   have eS : ((lnHead p :: (p.figs.take (k + 1)).map lnFig)).map (fun x => [S x]) = ((lnHead p :: (p.figs.take k).map lnFig)).map (fun x => [S x]) ++ [[S (wFig ++ [32] ++ sideW p.figs[k].side ++ preL ([p.figs[k].rank, p.figs[k].hands].map Lib.itoa))]] := by rw [List.take_succ_eq_append_getElem hkf, List.map_append]; simp only [List.map_append, List.map_cons, List.map_nil, List.cons_append]; rw [lnFig_eq]; rfl
   refine wz 7 ?_
   refine aw_draw 12 mo (by kernel_rfl) ?_
   refine dz 3 ?_
   refine dkz az (rside_pure _) ?_
   refine dr_ev rfl (ev_less (ev_catS jz jz (by have := sideW_len p.figs[k].side; simp only [List.length_append, List.length_cons, List.length_nil]; omega)) (Less.eq (b := S (wFig ++ [32] ++ sideW p.figs[k].side)) (by simp [wFig]))) ?_
   refine dz 4 ?_
   refine dr_ev rfl (ev_buildSlice (es := [[_], [_]]) sf22.h rfl rfl rfl rfl) ?_
   refine dr_ev rfl (ev_call en108.h jz (rrow_pure (wFig ++ [32] ++ sideW p.figs[k].side) [p.figs[k].rank, p.figs[k].hands] (by have := sideW_len p.figs[k].side; simp only [List.length_append]; have : wFig.length = 6 := rfl; simp; omega) (by simp) (dg_pos fun n hn => by have d := sm.td.fig p.figs[k] (List.getElem_mem hkf); rcases List.mem_cons.1 hn with rfl | hn; exact d.2.1; (obtain rfl := List.mem_singleton.1 hn); exact d.2.2)) ⟨jz, Less.trans (less_slx _ _) (Less.eq rfl), trivial⟩) ?_
   refine dr_ev rfl (ev_buildSlice (es := [[_]]) sf134.h rfl rfl rfl rfl) ?_
   refine dr_end ?_
   first | refine sq_append rfl sf134.h Tryz.underlying134 rfl rfl jz (Nat.succ_pos _) (by simp; omega) (by simp; omega) ?_ | refine sq_append rfl sf134.h Tryz.underlying134 rfl rfl (less_slx _ _) (Nat.succ_pos _) (by simp; omega) (by simp; omega) ?_
   refine wz 4 ?_
   exact ⟨⟨k + 1, by omega⟩, by simp only; omega, sb 2 ⟨jz, Less.eq (by rw [eS] <;> rfl), jz, trivial⟩ (hH := (congrArg (fun n => [_, AObj.tok n]) (congrArg List.length eS.symm)))⟩
  obtain rfl : k = p.figs.length := by omega
  refine vz 1 ?_
  refine sq_nil ?_
  refine aw_block ?_
  rw [show (lnHead p :: (p.figs.take p.figs.length).map lnFig) = (lnHead p :: (p.figs.map lnFig ++ (p.scs.take 0).map lnScn)) by simp]
  refine aw_loopk (ι := { k : Nat // k ≤ p.scs.length }) [1] (fun i => [(6, I i.1), (3, .own 1 1 (((lnHead p :: (p.figs.map lnFig ++ (p.scs.take i.1).map lnScn))).map fun x => [S x]))]) (fun H i => H.set 1 (.tok (((lnHead p :: (p.figs.map lnFig ++ (p.scs.take i.1).map lnScn))).map fun x => [S x]).length)) (fun i => p.scs.length - i.1) (⟨0, Nat.zero_le _⟩) ⟨jz, jz, jz, trivial⟩ rfl ?_
  rintro ⟨k, hk⟩
  refine nz ?_
  have hsl := sm.nf
  have hsn := sm.ns
  refine wz 5 ?_
  refine iz (fun c_45 c_45' => ?_) (fun c_45 c_45' => ?_)
  ·have hkf : k < p.scs.length := by omega
   have hd := sm.td.scn p.scs[k] (List.getElem_mem hkf)
   have l1 := sm.ll _ (List.getElem_mem hkf) p.scs[k].moved (by simp)
   have l2 := sm.ll _ (List.getElem_mem hkf) p.scs[k].rest (by simp)
   have l3 := sm.ll _ (List.getElem_mem hkf) p.scs[k].taken (by simp)
   have i1 := itoas_len [p.scs[k].knocks] (dg_pos fun n hn => by obtain rfl := List.mem_singleton.1 hn; exact hd.1) 1
   have w5 : wScn.length = 5 := rfl
   rw [List.take_of_length_le (by simp)] at i1
   have eG : ((lnHead p :: (p.figs.map lnFig ++ (p.scs.take (k + 1)).map lnScn))).map (fun x => [S x]) = ((lnHead p :: (p.figs.map lnFig ++ (p.scs.take k).map lnScn))).map (fun x => [S x]) ++ [[S (wScn ++ preL ([p.scs[k].knocks].map Lib.itoa) ++ [32] ++ listW p.scs[k].moved ++ [32] ++ listW p.scs[k].rest ++ [32] ++ listW p.scs[k].taken)]] := by rw [List.take_succ_eq_append_getElem hkf, List.map_append]; simp only [List.map_append, List.map_cons, List.map_nil, List.cons_append, List.append_assoc]; rw [lnScn_eq]; simp only [List.append_assoc]; rfl
   refine wz 7 ?_
   refine aw_draw 21 mo (by kernel_rfl) ?_
   refine dz 3 ?_
   refine dr_ev rfl (ev_buildSlice (es := [[_]]) sf22.h rfl rfl rfl rfl) ?_
   refine dr_ev rfl (ev_call en108.h jz (rrow_pure wScn [p.scs[k].knocks] (by decide) (by simp) (dg_pos fun n hn => by have d := sm.td.scn p.scs[k] (List.getElem_mem hkf); obtain rfl := List.mem_singleton.1 hn; exact d.1)) ⟨jz, Less.trans (less_slx _ _) (Less.eq rfl), trivial⟩) ?_
   refine dr_ev rfl (ev_catS jz jz (by simp only [List.length_append, List.length_cons, List.length_nil]; omega)) ?_
   refine dz 2 ?_
   refine dkz az (rlisted_pure p.scs[k].moved (by omega) (dg_pos hd.2.1)) ?_
   refine dr_ev rfl (ev_catS jz jz (by simp only [List.length_append, List.length_cons, List.length_nil]; omega)) ?_
   refine dr_ev rfl (ev_catS jz jz (by simp only [List.length_append, List.length_cons, List.length_nil]; omega)) ?_
   refine dz 2 ?_
   refine dkz az (rlisted_pure p.scs[k].rest (by omega) (dg_pos hd.2.2.1)) ?_
   refine dr_ev rfl (ev_catS jz jz (by simp only [List.length_append, List.length_cons, List.length_nil]; omega)) ?_
   refine dr_ev rfl (ev_catS jz jz (by simp only [List.length_append, List.length_cons, List.length_nil]; omega)) ?_
   refine dz 2 ?_
   refine dkz az (rlisted_pure p.scs[k].taken (by omega) (dg_pos hd.2.2.2)) ?_
   refine dr_ev rfl (ev_catS jz jz (by simp only [List.length_append, List.length_cons, List.length_nil]; omega)) ?_
   refine dr_ev rfl (ev_buildSlice (es := [[_]]) sf134.h rfl rfl rfl rfl) ?_
   refine dr_end ?_
   first | refine sq_append rfl sf134.h Tryz.underlying134 rfl rfl jz (Nat.succ_pos _) (by simp; omega) (by simp; omega) ?_ | refine sq_append rfl sf134.h Tryz.underlying134 rfl rfl (less_slx _ _) (Nat.succ_pos _) (by simp; omega) (by simp; omega) ?_
   refine wz 4 ?_
   exact ⟨⟨k + 1, by omega⟩, by simp only; omega, sb 2 ⟨jz, Less.eq (by rw [eG] <;> rfl), jz, trivial⟩ (hH := (congrArg (fun n => [_, AObj.tok n]) (congrArg List.length eG.symm)))⟩
  obtain rfl : k = p.scs.length := by omega
  refine wz 1 ?_
  refine sq_ev rfl (ev_call en111.h jz (rsealed_pure (linesS p) (by simp [linesS]; have := sm.nf; have := sm.ns; omega) sm.line) ⟨Less.trans (less_own _ _ _) (Less.eq (by rw [List.take_length]; simp [linesS])), jz, trivial⟩) ?_
  refine wz 1 ?_
  exact rz rfl (Less.eq (by rfl))
end Go.Proofs.YtfmpabgblbbcdaaGreatDoor
