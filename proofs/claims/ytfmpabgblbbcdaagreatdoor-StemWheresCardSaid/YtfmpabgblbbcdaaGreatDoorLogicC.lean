/-
  A part of the proof: conditions: none beyond each theorem's own.
-/
import Derived.Test.YtfmpabgblbbcdaaGreatDoorLogicB
import Derived.RangeFuncRecord
import Derived.RecoverIn
import Derived.Laws.StructEq
import Derived.Laws.RangeAny
import Derived.Laws.BytesArg
import Derived.Laws.Concat
import Derived.Sort.Grow
import Derived.Deep.Draws
import Derived.Lib.SplitLaws
set_option linter.all false
namespace Go.Ab
variable [Tabs]
section tok
variable {c : Ctx} {ops : Array Oper} {Q : AExit → St → Prop} {rest : List Oper} {s : St} {i : Nat}
variable {d : Option Tmp} {t : TypeId} {p : String} {af : Array Edge}
theorem sim_tok {e : Env} {a : Act} (hs : Sim c s e a) (n : Nat) : ∃ e', e'.w = e.w ∧ e'.G = e.G ∧ e.Le e' ∧ e'.H = s.H ++ [.tok n] ∧ e'.μ s.H.length = none ∧ Sim c { s with H := s.H ++ [.tok n] } e' a := by
  have hlen : e.H.length = s.H.length := by rw [hs.H]
  have hT : ∀ i, i < e.H.length → Env.T { H := e.H ++ [.tok n], μ := fun i => if i = e.H.length then none else e.μ i, G := e.G, w := e.w } i = e.T i := fun i hi => by
    simp [Env.T, List.getElem?_append_left hi]
  have le : e.Le { H := e.H ++ [.tok n], μ := fun i => if i = e.H.length then none else e.μ i, G := e.G, w := e.w } := by
    refine ⟨by simp, fun i hi ht => ⟨by rw [hT i hi]; exact ht, fun _ hb => by simpa [Nat.ne_of_lt hi] using hb⟩, fun b off ho => ⟨ho, rfl⟩, fun i n ht => ?_⟩
    have hi : i < e.H.length := by
      rcases Nat.lt_or_ge i e.H.length with k | k
      · exact k
      · unfold Env.T at ht; rw [List.getElem?_eq_none k] at ht; simp [tokOf] at ht
    exact ⟨n, by rw [hT i hi]; exact ht, Nat.le_refl _, fun _ => ⟨by simp [Nat.ne_of_lt hi], fun b cs t _ hh => ⟨rfl, cs, hh, rfl⟩⟩⟩
  refine ⟨{ H := e.H ++ [.tok n], μ := fun i => if i = e.H.length then none else e.μ i, G := e.G, w := e.w }, rfl, rfl, le, by rw [hs.H], by simp [hlen], hs.size, fun t => Rep.mono le _ (hs.slots t), hs.defers.mono le, by rw [hs.H], ⟨hs.ok.fresh, fun i o ho => ?_, fun i j b hi hj h1 h2 => ?_, fun i b hi h1 => ?_, hs.ok.tabs.tok n⟩, ?_⟩
  · rcases Nat.lt_or_ge i e.H.length with h | h
    · have ho' : e.H[i]? = some o := by simpa [List.getElem?_append_left h] using ho
      exact ObjSim.mono le (hs.ok.objs i o ho') (by simp [Nat.ne_of_lt h]) (fun _ _ => ⟨rfl, rfl⟩)
    · have hi : i = e.H.length := by have := lt_of_get? ho; simp at this; omega
      subst hi
      have : o = .tok n := by simpa using ho.symm
      subst this; trivial
  · have hi' : i < e.H.length + 1 := by simpa using hi
    have hj' : j < e.H.length + 1 := by simpa using hj
    simp only at h1 h2
    by_cases e1 : i = e.H.length
    · rw [if_pos e1] at h1; cases h1
    · by_cases e2 : j = e.H.length
      · rw [if_pos e2] at h2; cases h2
      · rw [if_neg e1] at h1; rw [if_neg e2] at h2; exact hs.ok.inj i j b (by omega) (by omega) h1 h2
  · have hi' : i < e.H.length + 1 := by simpa using hi
    simp only at h1
    by_cases e1 : i = e.H.length
    · rw [if_pos e1] at h1; cases h1
    · rw [if_neg e1] at h1; exact hs.ok.live i b (by omega) h1
  · refine ⟨hs.fr.size, hs.fr.still, hs.fr.heap, fun i b hi h1 => ?_, hs.fr.le.trans le⟩
    have hi' : i < e.H.length + 1 := by simpa using hi
    simp only at h1
    by_cases e1 : i = e.H.length
    · rw [if_pos e1] at h1; cases h1
    · rw [if_neg e1] at h1; exact hs.fr.objs i b (by omega) h1
theorem sq_append' {x y : Operand} {st xt et et' : TypeId} {j sz bytes : Nat} {es xs : List (List AV)} (hd : dOK c.nt d = true)
    (hf : SlFact c.P st et sz bytes) (hk : c.P.underlying xt = some (.slice et')) (hx : s.op x = .own j sz es) (hj : s.H[j]? = some (.tok es.length)) (hy : Less (s.op y) (.sl sz xs))
    (hb : (es.length + xs.length) * bytes ≤ 140737488355328) (h63 : es.length + xs.length ≤ 9223372036854775807)
    (k : SeqWP c ops Q (i + 1) rest (St.put { s with H := s.H.set j (.tok (es ++ xs).length) } d (.own j sz (es ++ xs)))) : SeqWP c ops Q i (⟨d, .call ⟨.builtin .append, #[x, y], #[st, xt]⟩, t, p, af, none⟩ :: rest) s := by
  rcases Nat.eq_zero_or_pos xs.length with h0 | hpos
  · have : xs = [] := List.length_eq_zero_iff.1 h0
    subst this
    refine sq_op fun e ac hs next hn' => ?_
    have hu := hs.op x
    rw [hx] at hu
    have hv := hy e _ (hs.op y)
    have hu' := hu
    rw [Rep] at hu'
    obtain ⟨a, len, cap, hv1, hlen, hle, _⟩ := hu'
    subst hlen
    refine ⟨about_FW _ _ _ _ _, ?_⟩
    show Oper.uponIn (FW c.r) 0 c.P _ ac next (lift c Q) (((Oper.semAt c.r ac.eval ⟨d, .call ⟨.builtin .append, #[x, y], #[st, xt]⟩, t, p, af, none⟩)).run c.P e.w)
    rw [semAt_of (by intro c h; cases h)]
    have hex : (execOp ac.eval ⟨d, .call ⟨.builtin .append, #[x, y], #[st, xt]⟩, t, p, af, none⟩).run c.P e.w = ((Builtin.append_ #[st, xt] t #[.slice a es.length cap, ac.eval y]).run c.P e.w).andThen fun v w'' => .ok (.value v) w'' := by
      simp [execOp, resolve, invoke, builtin, hv1]
    rw [hex, run_append_nothing' hf hk hv hle]
    have hset : s.H.set j (.tok (es ++ ([] : List (List AV))).length) = s.H := by
      apply List.ext_getElem?
      intro n
      by_cases h : j = n
      · subst h; rw [List.getElem?_set_self (lt_of_get? hj), hj]; simp
      · rw [List.getElem?_set_ne h]
    rw [hset, List.append_nil] at k
    exact hn' _ e _ k (Sim.put (s := { s with H := s.H }) hs hd (by rw [← hv1]; exact hu))
  · exact sq_append hd hf hk hx hj hy hpos hb h63 k
end tok
section eff
variable {c : Ctx} {Q : AExit → St → Prop} {H : List AObj} {df : List ADef} {ρ : Operand → AV} {d : Option Tmp} {t : TypeId} {p : String} {af : Array Edge}
theorem eff_store {st : TypeId} {x y : Operand} {a : AV} {j off n : Nat} {bb : Bool} {l m : List AV} (hd : dOK c.nt d = true)
    (hx : Less (ρ x) (.ptr j off)) (hy : Less (ρ y) a) (hm : a.cells = some m) (hj : H[j]? = some (.cells l)) (ht : tySz c.P st = some (bb, n)) (hn : Nat.beq m.length n = true) (hle : Nat.ble (off + n) l.length = true) :
    Eff c Q ⟨d, .store st x y, t, p, af, none⟩ H df ρ .any (H.set j (.cells (l.take off ++ m ++ l.drop (off + m.length)))) :=
  eff_of rfl fun s hH hop Q k => by
    subst hH
    exact sq_store hd (by rw [hop x (by simp [Op.operands])]; exact hx) (by rw [hop y (by simp [Op.operands])]; exact hy) hm hj ht hn hle k
theorem eff_append {x y : Operand} {st xt et et' : TypeId} {j sz bytes : Nat} {es xs : List (List AV)} (hd : dOK c.nt d = true)
    (hf : SlFact c.P st et sz bytes) (hk : c.P.underlying xt = some (.slice et')) (hx : ρ x = .own j sz es) (hj : H[j]? = some (.tok es.length)) (hy : Less (ρ y) (.sl sz xs))
    (hb : (es.length + xs.length) * bytes ≤ 140737488355328) (h63 : es.length + xs.length ≤ 9223372036854775807) :
    Eff c Q ⟨d, .call ⟨.builtin .append, #[x, y], #[st, xt]⟩, t, p, af, none⟩ H df ρ (.own j sz (es ++ xs)) (H.set j (.tok (es ++ xs).length)) :=
  eff_of rfl fun s hH hop Q k => by
    subst hH
    exact sq_append' hd hf hk (by rw [hop x (by simp [Op.operands, Call.operands])]; exact hx) hj (by rw [hop y (by simp [Op.operands, Call.operands])]; exact hy) hb h63 k
end eff
def ResL (P : Program) (s : St) : List ResultVar → List AV → Prop
  | [], [] => True
  | x :: l, v :: vs => resVar P s x = some v ∧ ResL P s l vs
  | _, _ => False
theorem resVar_tmp (P : Program) (s : St) (t : Tmp) : resVar P s (.tmp t) = some (sget s.sl t) := rfl
theorem resVar_cell {P : Program} {s : St} {ad i off n : Nat} {t : TypeId} {l : List AV} (h1 : sget s.sl ad = .ptr i off) (h2 : s.H[i]? = some (.cells l)) (h3 : tySz P t = some (true, n)) (h4 : Nat.ble (off + n) l.length = true) :
    resVar P s (.cell ad t) = some (.agg ((l.drop off).take n)) := by
  unfold resVar
  simp only [h1, h2, h3]
  rw [if_pos (Nat.le_of_ble_eq_true h4)]
theorem resVar_cell1 {P : Program} {s : St} {ad i off n : Nat} {t : TypeId} {l : List AV} {v : AV} (h1 : sget s.sl ad = .ptr i off) (h2 : s.H[i]? = some (.cells l)) (h3 : tySz P t = some (false, n)) (h4 : l[off]? = some v) :
    resVar P s (.cell ad t) = some v := by
  unfold resVar
  simp only [h1, h2, h3, h4]
def resTup : List AV → AV
  | [v] => v
  | l => .tup l
@[simp] theorem resTup_one (v : AV) : resTup [v] = v := rfl
@[simp] theorem resTup_two (v u : AV) : resTup [v, u] = .tup [v, u] := rfl
@[simp] theorem resTup_three (v u w : AV) : resTup [v, u, w] = .tup [v, u, w] := rfl
theorem resAV_of {P : Program} {s : St} : ∀ {l : List ResultVar} {vs : List AV}, l.length ≤ 3 → ResL P s l vs → resAV P s l = some (resTup vs)
  | [], [], _, _ => rfl
  | [_], [_], _, h => h.1
  | [_, _], [_, _], _, h => by simp only [resAV, h.1, h.2.1]; rfl
  | [_, _, _], [_, _, _], _, h => by simp only [resAV, h.1, h.2.1, h.2.2.1]; rfl
  | _ :: _ :: _ :: _ :: _, _, hl, _ => by simp at hl
  | [], _ :: _, _, h => h.elim
  | [_], [], _, h => h.elim
  | [_], _ :: _ :: _, _, h => h.2.elim
  | [_, _], [], _, h => h.elim
  | [_, _], [_], _, h => h.2.elim
  | [_, _], _ :: _ :: _ :: _, _, h => h.2.2.elim
  | [_, _, _], [], _, h => h.elim
  | [_, _, _], [_], _, h => h.2.elim
  | [_, _, _], [_, _], _, h => h.2.2.elim
  | [_, _, _], _ :: _ :: _ :: _ :: _, _, h => h.2.2.2.elim
theorem retQ_res {P : Program} {rs : List ResultVar} {res : AV} {vs : List AV} {s : St} (hd : s.df = []) (hlen : Nat.ble rs.length 3 = true) (hv : ResL P s rs vs) (hl : Less (resTup vs) res) :
    retQ P rs (fun x _ => ∃ v, x = .ret v ∧ Less v res) .ret s := retQ_pure hd (resAV_of (Nat.le_of_ble_eq_true hlen) hv) hl
def maskH (ks : List Nat) : Nat → List AObj → List AObj
  | _, [] => []
  | i, o :: H => (bif ks.any (Nat.beq i) then .tok 0 else o) :: maskH ks (i + 1) H
inductive HL : List AObj → List AObj → Prop
  | nil (b : List AObj) : HL [] b
  | same {a b : List AObj} (o : AObj) : HL a b → HL (o :: a) (o :: b)
  | tok {a b : List AObj} (n : Nat) (o : AObj) : HL a b → HL (.tok n :: a) (o :: b)
theorem HL.sub {a b : List AObj} (h : HL a b) : HSub a b := by
  induction h with
  | nil b => intro i o h; simp at h
  | same o _ ih =>
    intro i o' h hn
    cases i with
    | zero => simpa using h
    | succ i => simp at h ⊢; exact ih i o' h hn
  | tok n o _ ih =>
    intro i o' h hn
    cases i with
    | zero => simp at h; exact absurd h.symm (hn n)
    | succ i => simp at h ⊢; exact ih i o' h hn
theorem HSub.mask (ks : List Nat) : ∀ (i : Nat) (H : List AObj), HSub (maskH ks i H) H := by
  intro i H
  refine HL.sub ?_
  induction H generalizing i with
  | nil => exact .nil _
  | cons o H ih =>
    unfold maskH
    cases ks.any (Nat.beq i)
    · exact .same o (ih _)
    · exact .tok 0 o (ih _)
end Go.Ab
namespace Go.Ab
variable [Tabs]
section seq
variable {c : Ctx} {ops : Array Oper} {Q : AExit → St → Prop} {rest : List Oper} {s : St} {i : Nat}
variable {d : Option Tmp} {t : TypeId} {p : String} {af : Array Edge}
theorem sq_append_msl {x y : Operand} {st xt et et' : TypeId} {sz bytes : Nat} {xs : List (List AV)} (hd : dOK c.nt d = true)
    (hf : SlFact c.P st et sz bytes) (hk : c.P.underlying xt = some (.slice et')) (hx : Less (s.op x) (.slx sz [])) (hy : Less (s.op y) (.sl sz xs)) (hpos : 0 < xs.length)
    (hb : xs.length * bytes ≤ 140737488355328) (h63 : xs.length ≤ 9223372036854775807)
    (k : ∀ cap, xs.length ≤ cap → SeqWP c ops Q (i + 1) rest (St.put { s with H := s.H ++ [.cells (xs.flatten ++ List.replicate ((cap - xs.length) * sz) .any)] } d (.msl s.H.length 0 xs.length cap))) :
    SeqWP c ops Q i (⟨d, .call ⟨.builtin .append, #[x, y], #[st, xt]⟩, t, p, af, none⟩ :: rest) s := by
  refine sq_op fun e ac hs next hn' => ?_
  have hu := hx e _ (hs.op x)
  have hv := hy e _ (hs.op y)
  have hu' := hu
  rw [Rep] at hu'
  obtain ⟨a, len, hv1, hlen, hnil, hsz, hc⟩ := hu'
  obtain ⟨olds, ho1, ho2, ho3, _⟩ := slx_read (P := c.P) (cap := len) hlen hnil hsz hc
  have hol : olds = [] := by simpa [RepL] using ho1
  subst hol
  simp only [List.length_nil] at hlen
  subst hlen
  obtain ⟨ti, z, k1, k2, rfl, rfl, k5, k6, k7⟩ := hf.ex
  obtain ⟨news, hsrc, hnw⟩ := src_of hk hv
  have hcap := nextslicecap_le (show 0 < 0 + xs.length by omega)
  have hrun := run_append_grow_src (P := c.P) e.w st xt t et ti z k1 k2 k5 a 0 0 [] ho3 (ac.eval y) xs.length news hsrc (by omega) (by omega) (by
    have := Nat.mul_le_mul_right ti.bytes hcap
    have h2 : 2 * (0 + xs.length) * ti.bytes = 2 * (xs.length * ti.bytes) := by rw [Nat.zero_add, Nat.mul_assoc]
    omega)
  have hle := grownCap_le e.w (0 + xs.length) 0 et
  generalize grownCap e.w (0 + xs.length) 0 et = cap at hrun hle
  have hnl : news.length = xs.length * ti.size := hsrc.newsLen
  have hs1 := hs.ext (EnvOK.drew hs.ok)
  have hnw1 : RepL { e with w := { e.w with drawn := e.w.drawn + 1 } } xs.flatten news := RepL.mono ((EnvOK.drew hs.ok).le hs.ok) _ hnw
  have hzl : (Builtin.zeroCells z.cells (cap - (0 + xs.length))).toList.length = (cap - xs.length) * ti.size := by
    simp only [Builtin.zeroCells, Array.toList_map, Array.toList_range, List.length_map, List.length_range, k7, Nat.zero_add]
  have hrl : RepL { e with w := { e.w with drawn := e.w.drawn + 1 } } (xs.flatten ++ List.replicate ((cap - xs.length) * ti.size) .any) ((([] ++ news).toArray ++ Builtin.zeroCells z.cells (cap - (0 + xs.length)))).toList := by
    rw [Array.toList_append]
    refine RepL.append (by simpa using hnw1) ?_
    rw [← hzl]; exact RepL.anys _
  have hcell : ∀ q ∈ ((([] ++ news).toArray ++ Builtin.zeroCells z.cells (cap - (0 + xs.length)))).toList, isCell q = true := by
    intro q hq
    rw [Array.toList_append] at hq
    rcases List.mem_append.1 hq with h | h
    · exact hsrc.one q (by simpa using h)
    · exact zeroCells_cell k6 _ q h
  have hs2 := hs1.push (push_cells (t := et) hs1.ok hrl hcell)
  refine ⟨about_FW _ _ _ _ _, ?_⟩
  show Oper.uponIn (FW c.r) 0 c.P _ ac next (lift c Q) (((Oper.semAt c.r ac.eval ⟨d, .call ⟨.builtin .append, #[x, y], #[st, xt]⟩, t, p, af, none⟩)).run c.P e.w)
  rw [semAt_of (by intro c h; cases h)]
  have hex : (execOp ac.eval ⟨d, .call ⟨.builtin .append, #[x, y], #[st, xt]⟩, t, p, af, none⟩).run c.P e.w = ((Builtin.append_ #[st, xt] t #[.slice a 0 0, ac.eval y]).run c.P e.w).andThen fun v w'' => .ok (.value v) w'' := by
    simp [execOp, resolve, invoke, builtin, hv1]
  rw [hex, hrun]
  refine hn' _ _ _ (k cap (by omega)) (hs2.put hd ?_)
  rw [Rep]
  refine ⟨?_, ?_, e.w.heap.size, ?_, by simp, by omega⟩
  · simp [Env.push, hs.H]
  · simp [Env.T, Env.push, hs.H, tokOf]
  · simp [Env.push, hs.H]
def Fz (j n cap sz : Nat) (es : List (List AV)) (a a' : AV) : Prop := ∀ e e' : Env, e.Le e' → (∀ v, Rep e (.msl j 0 n cap) v → Rep e' (.sl sz es) v) → ∀ v, Rep e a v → Rep e' a' v
theorem Fz.same {j n cap sz : Nat} {es : List (List AV)} (a : AV) : Fz j n cap sz es a a := fun _ _ le _ _ h => Rep.mono le a h
theorem Fz.frozen {j n cap sz : Nat} {es : List (List AV)} : Fz j n cap sz es (.msl j 0 n cap) (.sl sz es) := fun _ _ _ k v h => k v h
inductive FzL (j n cap sz : Nat) (es : List (List AV)) : List AV → List AV → Prop
  | nil : FzL j n cap sz es [] []
  | cons {a a' : AV} {l l' : List AV} : Fz j n cap sz es a a' → FzL j n cap sz es l l' → FzL j n cap sz es (a :: l) (a' :: l')
theorem FzL.rep {j n cap sz : Nat} {es : List (List AV)} {l l' : List AV} (h : FzL j n cap sz es l l') {e e' : Env} (le : e.Le e') (k : ∀ v, Rep e (.msl j 0 n cap) v → Rep e' (.sl sz es) v) : ∀ {vs : List Value}, RepL e l vs → RepL e' l' vs := by
  induction h with
  | nil => intro vs hv; rw [RepL] at hv ⊢; exact hv
  | cons h1 _ ih =>
    intro vs hv
    rw [RepL] at hv ⊢
    obtain ⟨v, rest, rfl, h2, h3⟩ := hv
    exact ⟨v, rest, rfl, h1 e e' le k v h2, ih h3⟩
theorem Fz.agg {j n cap sz : Nat} {es : List (List AV)} {l l' : List AV} (h : FzL j n cap sz es l l') : Fz j n cap sz es (.agg l) (.agg l') := fun e e' le k v hv => by
  rw [Rep] at hv ⊢
  obtain ⟨cs, h1, h2, h3⟩ := hv
  exact ⟨cs, h1, h.rep le k h2, h3⟩
inductive FzH (j n cap sz : Nat) (es : List (List AV)) : Nat → List AObj → List AObj → Prop
  | nil (m : Nat) : FzH j n cap sz es m [] []
  | same {m : Nat} {H H' : List AObj} (o : AObj) : m ≠ j → FzH j n cap sz es (m + 1) H H' → FzH j n cap sz es m (o :: H) (o :: H')
  | cells {m : Nat} {H H' : List AObj} {l l' : List AV} : m ≠ j → FzL j n cap sz es l l' → FzH j n cap sz es (m + 1) H H' → FzH j n cap sz es m (.cells l :: H) (.cells l' :: H')
  | dead {m : Nat} {H H' : List AObj} (o : AObj) : m = j → FzH j n cap sz es (m + 1) H H' → FzH j n cap sz es m (o :: H) (.dead :: H')
theorem FzH.get {j n cap sz : Nat} {es : List (List AV)} {m : Nat} {H H' : List AObj} (h : FzH j n cap sz es m H H') : H'.length = H.length ∧ ∀ q o', H'[q]? = some o' →
    ∃ o, H[q]? = some o ∧ ((m + q = j ∧ o' = .dead) ∨ (m + q ≠ j ∧ (o' = o ∨ ∃ l l', o = .cells l ∧ o' = .cells l' ∧ FzL j n cap sz es l l'))) := by
  induction h with
  | nil m => exact ⟨rfl, fun q o' h => by simp at h⟩
  | @same m H H' o hm _ ih =>
    refine ⟨by simp [ih.1], fun q o' h => ?_⟩
    cases q with
    | zero => simp at h; subst h; exact ⟨_, rfl, .inr ⟨by simpa using hm, .inl rfl⟩⟩
    | succ q =>
      obtain ⟨o2, h1, h2⟩ := ih.2 q o' (by simpa using h)
      exact ⟨o2, by simpa using h1, by rwa [show m + (q + 1) = m + 1 + q by omega]⟩
  | @cells m H H' l l' hm hl _ ih =>
    refine ⟨by simp [ih.1], fun q o' h => ?_⟩
    cases q with
    | zero => simp at h; subst h; exact ⟨_, rfl, .inr ⟨by simpa using hm, .inr ⟨l, l', rfl, rfl, hl⟩⟩⟩
    | succ q =>
      obtain ⟨o2, h1, h2⟩ := ih.2 q o' (by simpa using h)
      exact ⟨o2, by simpa using h1, by rwa [show m + (q + 1) = m + 1 + q by omega]⟩
  | @dead m H H' o hm _ ih =>
    refine ⟨by simp [ih.1], fun q o' h => ?_⟩
    cases q with
    | zero => simp at h; subst h; exact ⟨_, rfl, .inl ⟨by simpa using hm, rfl⟩⟩
    | succ q =>
      obtain ⟨o2, h1, h2⟩ := ih.2 q o' (by simpa using h)
      exact ⟨o2, by simpa using h1, by rwa [show m + (q + 1) = m + 1 + q by omega]⟩
/-- **Freezing**: what was written into is written into no more. -/
theorem sub_freeze {j n cap sz : Nat} {es : List (List AV)} {rest : List AV} {sl' : List (Nat × AV)} {H' : List AObj} (hj : s.H[j]? = some (.cells (es.flatten ++ rest))) (hn : es.length = n) (hsz : ∀ q ∈ es, q.length = sz)
    (hsl : ∀ q ∈ sl', Fz j n cap sz es (sget s.sl q.1) q.2) (hH : FzH j n cap sz es 0 s.H H') : Sub c s ⟨sl', H', s.df⟩ := by
  intro e a hs
  have hje : e.H[j]? = some (.cells (es.flatten ++ rest)) := by rw [hs.H]; exact hj
  have hjl := lt_of_get? hje
  obtain ⟨b, cs, ct, m1, m2, m3, m4, m5⟩ := hs.ok.objs j _ hje
  have hbl := lt_of_heap m3
  obtain ⟨hlen, hget⟩ := hH.get
  obtain ⟨e', he'⟩ : ∃ e' : Env, e' = { H := H', μ := e.μ, G := fun b' => if b' = b then cs.size else e.G b', w := e.w } := ⟨_, rfl⟩
  have hTj : e.T j = none := by unfold Env.T; rw [hje]; rfl
  have hT : ∀ q, e'.T q = e.T q := fun q => by
    rw [he']
    unfold Env.T
    show tokOf (H'[q]?) = tokOf (e.H[q]?)
    rw [hs.H]
    cases hq : H'[q]? with
    | none =>
      have : H'.length ≤ q := by rwa [List.getElem?_eq_none_iff] at hq
      rw [List.getElem?_eq_none (by omega)]
    | some o' =>
      obtain ⟨o, h1, h2⟩ := hget q o' hq
      rw [h1]
      rcases h2 with ⟨h2, rfl⟩ | ⟨_, rfl | ⟨l, l', rfl, rfl, _⟩⟩
      · have : q = j := by omega
        subst this; rw [hj] at h1; cases h1; rfl
      · rfl
      · rfl
  have hne : ∀ q, q < e.H.length → q ≠ j → e.μ q ≠ some b := fun q hq hqj hm => hqj (hs.ok.inj q j b hq hjl hm m1)
  have le : e.Le e' := by
    refine ⟨by rw [he', hs.H]; show s.H.length ≤ H'.length; omega, fun q hq ht => ⟨by rw [hT]; exact ht, fun b' hb' => by rw [he']; exact hb'⟩, fun b' off ho => ?_, fun q m ht => ⟨m, by rw [hT]; exact ht, Nat.le_refl _, fun _ => ⟨by rw [he'], fun b' cs' t' hm hh => ?_⟩⟩⟩
    · by_cases h : b' = b
      · subst h; rw [m2] at ho; omega
      · rw [he']; exact ⟨by simp only [if_neg h]; exact ho, rfl⟩
    · have hq : q < e.H.length := by
        rcases Nat.lt_or_ge q e.H.length with k | k
        · exact k
        · unfold Env.T at ht; rw [List.getElem?_eq_none k] at ht; simp [tokOf] at ht
      have hqj : q ≠ j := fun h => by subst h; rw [hTj] at ht; cases ht
      have hbb : b' ≠ b := fun h => by subst h; exact hne q hq hqj hm
      rw [he']
      exact ⟨by simp only [if_neg hbb], cs', hh, rfl⟩
  have key : ∀ v, Rep e (.msl j 0 n cap) v → Rep e' (.sl sz es) v := by
    intro v hv
    rw [Rep] at hv
    rw [Rep]
    obtain ⟨_, _, b', hb', rfl, hle⟩ := hv
    rw [m1] at hb'; cases hb'
    refine ⟨_, _, _, rfl, hn.symm, hle, (fun h => by cases h), hsz, fun ad had => ?_⟩
    simp only [Option.some.injEq] at had; subst had
    refine ⟨fun _ => rfl, ElemsAt.flat.2 ?_⟩
    have hall : RepL e' (es.flatten ++ rest) cs.toList := RepL.mono le _ m4
    have htk : RepL e' es.flatten (cs.toList.take es.flatten.length) := by
      have := hall.take es.flatten.length
      rwa [List.take_left'] at this; rfl
    have hl2 := m4.length
    simp only [List.length_append] at hl2
    refine CellsAt.of_values (e := e') (cs := cs) (t := ct) (fr := (0, 0)) (by rw [he']; exact m3) htk (fun q hq => m5 q (List.mem_of_mem_take hq)) (fun m q hm' => ?_) ?_
    · have hml := lt_of_get? hm'
      rw [List.getElem?_take_of_lt (by rw [List.length_take] at hml; omega)] at hm'
      simpa using hm'
    · rw [he', List.length_take]; simp only [if_true]; rw [← Array.length_toList]; omega
  refine ⟨e', by rw [he'], hs.size, fun t => ?_, hs.defers.mono le, by rw [he'], ⟨fun b' hb' => ?_, fun q o' ho => ?_, fun q r b' hq hr h1 h2 => ?_, fun q b' hq h1 => ?_, hs.ok.tabs.sub (by rw [he']) fun q b' hq h1 => ⟨q, by rw [he'] at hq; have hq' : q < H'.length := hq; rw [hs.H]; omega, by rw [he'] at h1; exact h1⟩⟩, ⟨by rw [he']; exact hs.fr.size, by rw [he']; exact hs.fr.still, fun b' hb' hno => ?_, fun q b' hq h1 => ?_, hs.fr.le.trans le⟩⟩
  · have hfz : ∀ (sl : List (Nat × AV)), (∀ q ∈ sl, Fz j n cap sz es (sget s.sl q.1) q.2) → Rep e' (sget sl t) (a.tmps.getD t undef) := by
      intro sl
      induction sl with
      | nil => intro _; show Rep e' .any _; rw [Rep]; trivial
      | cons x sl ih =>
        intro h
        obtain ⟨u, av⟩ := x
        simp only [sget]
        cases hb : u == t with
        | true =>
          have : u = t := by simpa using hb
          subst this
          exact h (u, av) (by simp) e e' le key _ (hs.slots u)
        | false => exact ih (fun q hq => h q (List.mem_cons_of_mem _ hq))
    exact hfz sl' hsl
  · rw [he'] at hb' ⊢
    have : b' ≠ b := fun h => by subst h; exact Nat.lt_irrefl _ (Nat.lt_of_lt_of_le hbl hb')
    simp only [if_neg this]; exact hs.ok.fresh b' hb'
  · have ho' : H'[q]? = some o' := by rw [he'] at ho; exact ho
    obtain ⟨o, h1, h2⟩ := hget q o' ho'
    rcases h2 with ⟨_, rfl⟩ | ⟨hqj, h2⟩
    · trivial
    · have hqj : q ≠ j := by omega
      have hoe : e.H[q]? = some o := by rw [hs.H]; exact h1
      have hkeep : ∀ b', e.μ q = some b' → e'.w.heap[b']? = e.w.heap[b']? ∧ e'.G b' = e.G b' := fun b' hb' => by
        have : b' ≠ b := fun h => by subst h; exact hne q (lt_of_get? hoe) hqj hb'
        rw [he']; exact ⟨rfl, by simp only [if_neg this]⟩
      rcases h2 with rfl | ⟨l, l', rfl, rfl, hl⟩
      · exact ObjSim.mono le (hs.ok.objs q _ hoe) (by rw [he']) hkeep
      · obtain ⟨b2, cs2, t2, g1, g2, g3, g4, g5⟩ := hs.ok.objs q _ hoe
        obtain ⟨w1, w2⟩ := hkeep b2 g1
        exact ⟨b2, cs2, t2, by rw [he']; exact g1, w2.trans g2, w1.trans g3, hl.rep le key g4, g5⟩
  · rw [he'] at hq hr h1 h2
    have hq' : q < H'.length := hq
    have hr' : r < H'.length := hr
    exact hs.ok.inj q r b' (by rw [hs.H]; omega) (by rw [hs.H]; omega) h1 h2
  · rw [he'] at hq h1 ⊢
    have hq' : q < H'.length := hq
    exact hs.ok.live q b' (by rw [hs.H]; omega) h1
  · obtain ⟨h1, h2⟩ := hs.fr.heap b' hb' hno
    have : b' ≠ b := fun h => by
      subst h
      rcases hs.fr.objs j b' hjl m1 with h | ⟨q, hq, hm⟩
      · omega
      · exact hno q hq hm
    rw [he']; exact ⟨h1, by simp only [if_neg this]; exact h2⟩
  · rw [he'] at hq h1
    have hq' : q < H'.length := hq
    exact hs.fr.objs q b' (by rw [hs.H]; omega) h1
end seq
end Go.Ab
namespace Go.Ab
variable [Tabs]
theorem cut_H (e : Env) (n : Nat) : (e.cut n).H = e.H.take n := rfl
theorem cut_ok {e : Env} {n : Nat} (ok : EnvOK e) (hb : objsIn n (e.H.take n) = true) : EnvOK (e.cut n) := by
  have hlt : ∀ i, i < (e.cut n).H.length → i < e.H.length := fun i hi => by rw [cut_H, List.length_take] at hi; omega
  refine ⟨ok.fresh, fun i o ho => ?_, fun i j b hi hj => ok.inj i j b (hlt i hi) (hlt j hj), fun i b hi => ok.live i b (hlt i hi), ok.tabs.sub rfl fun i b hi h => ⟨i, hlt i hi, h⟩⟩
  have hi := lt_of_get? ho
  rw [cut_H, List.length_take] at hi
  have ho' : e.H[i]? = some o := by rw [cut_H, List.getElem?_take_of_lt (by omega)] at ho; exact ho
  have hk := ok.objs i o ho'
  cases o with
  | cells l =>
    obtain ⟨b, cs, t, k1, k2, k3, k4, k5⟩ := hk
    exact ⟨b, cs, t, k1, k2, k3, RepL.cut l (objsIn_get (o := .cells l) hb (i := i) (by rw [cut_H] at ho; exact ho)) k4, k5⟩
  | tok m => trivial
  | map es => exact hk
  | tcells t l =>
    obtain ⟨b, cs, k1, k2, k3, k4, k5⟩ := hk
    exact ⟨b, cs, k1, k2, k3, RepL.cut l (objsIn_get (o := .tcells t l) hb (i := i) (by rw [cut_H] at ho; exact ho)) k4, k5⟩
  | pre l =>
    obtain ⟨b, cs, t, m, k1, k2, k3, k4, k5⟩ := hk
    exact ⟨b, cs, t, m, k1, k2, k3, RepL.cut _ (inL_pad (objsIn_get (o := .pre l) hb (i := i) (by rw [cut_H] at ho; exact ho))) k4, k5⟩
  | raw ob => exact hk
  | dead => trivial
def Env.glue (E eb : Env) (n : Nat) : Env := { H := eb.H ++ E.H.drop n, μ := fun i => if i < n then eb.μ i else E.μ i, G := eb.G, w := eb.w }
theorem T_lt {e : Env} {i m : Nat} (h : e.T i = some m) : i < e.H.length := by
  rcases Nat.lt_or_ge i e.H.length with k | k
  · exact k
  · unfold Env.T at h; rw [List.getElem?_eq_none k] at h; simp [tokOf] at h
theorem glue_all {E eb : Env} {n : Nat} (ok : EnvOK E) (hn : n ≤ E.H.length) (okb : EnvOK eb) (fr : Fr (E.cut n) eb) (hl : eb.H.length = n) : EnvOK (E.glue eb n) ∧ Fr E (E.glue eb n) ∧ eb.Le (E.glue eb n) := by
  have hlen : (E.glue eb n).H.length = E.H.length := by simp [Env.glue, hl]; omega
  have hcl : (E.cut n).H.length = n := by rw [cut_H, List.length_take]; omega
  have hT1 : ∀ i, i < n → (E.glue eb n).T i = eb.T i := fun i hi => by
    unfold Env.T Env.glue; simp only; rw [List.getElem?_append_left (by omega)]
  have hT2 : ∀ i, n ≤ i → (E.glue eb n).T i = E.T i := fun i hi => by
    unfold Env.T Env.glue; simp only; rw [List.getElem?_append_right (by omega), List.getElem?_drop, hl]; congr 2; congr 1; omega
  have hμ1 : ∀ i, i < n → (E.glue eb n).μ i = eb.μ i := fun i hi => by simp [Env.glue, hi]
  have hμ2 : ∀ i, n ≤ i → (E.glue eb n).μ i = E.μ i := fun i hi => by simp [Env.glue, Nat.not_lt.2 hi]
  have hoth : ∀ i b, n ≤ i → i < E.H.length → E.μ i = some b → eb.w.heap[b]? = E.w.heap[b]? ∧ eb.G b = E.G b := fun i b hi hil hb =>
    fr.heap b (ok.live i b hil hb) fun j hj hjb => by
      rw [hcl] at hj
      have := ok.inj j i b (by omega) hil hjb hb
      omega
  have le : E.Le (E.glue eb n) := by
    refine ⟨by omega, fun i hi ht => ?_, fun b off ho => fr.le.cell b off ho, fun i m ht => ?_⟩
    · rcases Nat.lt_or_ge i n with h | h
      · have := fr.le.obj i (by omega) (by rw [Env.cut_T h]; exact ht)
        rw [hT1 i h, hμ1 i h]; exact this
      · rw [hT2 i h, hμ2 i h]; exact ⟨ht, fun b hb => hb⟩
    · have hi := T_lt ht
      rcases Nat.lt_or_ge i n with h | h
      · obtain ⟨m', k1, k2, k3⟩ := fr.le.tok i m (by rw [Env.cut_T h]; exact ht)
        exact ⟨m', by rw [hT1 i h]; exact k1, k2, fun e => by rw [hμ1 i h]; exact k3 e⟩
      · refine ⟨m, by rw [hT2 i h]; exact ht, Nat.le_refl _, fun _ => ⟨hμ2 i h, fun b cs t hb hh => ?_⟩⟩
        obtain ⟨h1, h2⟩ := hoth i b h hi hb
        exact ⟨h2, cs, h1.trans hh, rfl⟩
  have leb : eb.Le (E.glue eb n) := by
    refine ⟨by omega, fun i hi ht => ?_, fun b off ho => ⟨ho, rfl⟩, fun i m ht => ?_⟩
    · rw [hT1 i (by omega), hμ1 i (by omega)]; exact ⟨ht, fun b hb => hb⟩
    · have hi := T_lt ht
      exact ⟨m, by rw [hT1 i (by omega)]; exact ht, Nat.le_refl _, fun _ => ⟨hμ1 i (by omega), fun b cs t hb hh => ⟨rfl, cs, hh, rfl⟩⟩⟩
  have hO : ∀ i b, i < (E.glue eb n).H.length → (E.glue eb n).μ i = some b → E.w.heap.size ≤ b ∨ ∃ j, j < E.H.length ∧ E.μ j = some b := fun i b hi h1 => by
    rw [hlen] at hi
    rcases Nat.lt_or_ge i n with h | h
    · rw [hμ1 i h] at h1
      rcases fr.objs i b (by omega) h1 with h3 | ⟨q, hq, h3⟩
      · exact .inl h3
      · rw [hcl] at hq; exact .inr ⟨q, by omega, h3⟩
    · rw [hμ2 i h] at h1; exact .inr ⟨i, hi, h1⟩
  have hB : ∀ b, b < E.w.heap.size → (∀ i, i < E.H.length → E.μ i ≠ some b) → (E.glue eb n).w.heap[b]? = E.w.heap[b]? ∧ (E.glue eb n).G b = E.G b := fun b hb hno =>
    fr.heap b hb fun i hi hib => by rw [hcl] at hi; exact hno i (by omega) hib
  refine ⟨⟨okb.fresh, fun i o ho => ?_, fun i j b hi hj h1 h2 => ?_, fun i b hi h1 => ?_, ok.tabs.of fr.size (fun b hb hno => (hB b hb hno).1) hO⟩, ⟨fr.size, fr.still, hB, hO, le⟩, leb⟩
  · rcases Nat.lt_or_ge i n with h | h
    · have ho' : eb.H[i]? = some o := by
        have : (E.glue eb n).H[i]? = eb.H[i]? := by unfold Env.glue; exact List.getElem?_append_left (by omega)
        rw [← this]; exact ho
      exact ObjSim.mono leb (okb.objs i o ho') (hμ1 i h) (fun _ _ => ⟨rfl, rfl⟩)
    · have hil : i < E.H.length := by have := lt_of_get? ho; omega
      have ho' : E.H[i]? = some o := by
        have : (E.glue eb n).H[i]? = E.H[i]? := by
          unfold Env.glue; simp only; rw [List.getElem?_append_right (by omega), List.getElem?_drop, hl]; congr 1; omega
        rw [← this]; exact ho
      exact ObjSim.mono le (ok.objs i o ho') (hμ2 i h) (fun b hb => hoth i b h hil hb)
  · rw [hlen] at hi hj
    have mix : ∀ i j, i < n → n ≤ j → j < E.H.length → eb.μ i = some b → E.μ j = some b → False := fun i j hi hj hjl h1 h2 => by
      rcases fr.objs i b (by omega) h1 with h3 | ⟨q, hq, h3⟩
      · have := ok.live j b hjl h2
        have e1 : (E.cut n).w.heap.size = E.w.heap.size := rfl
        omega
      · rw [hcl] at hq
        have := ok.inj q j b (by omega) hjl h3 h2
        omega
    rcases Nat.lt_or_ge i n with h | h
    · rw [hμ1 i h] at h1
      rcases Nat.lt_or_ge j n with k | k
      · rw [hμ1 j k] at h2; exact okb.inj i j b (by omega) (by omega) h1 h2
      · rw [hμ2 j k] at h2; exact (mix i j h k hj h1 h2).elim
    · rw [hμ2 i h] at h1
      rcases Nat.lt_or_ge j n with k | k
      · rw [hμ1 j k] at h2; exact (mix j i k h hi h2 h1).elim
      · rw [hμ2 j k] at h2; exact ok.inj i j b hi hj h1 h2
  · rw [hlen] at hi
    rcases Nat.lt_or_ge i n with h | h
    · rw [hμ1 i h] at h1; exact okb.live i b (by omega) h1
    · rw [hμ2 i h] at h1; exact Nat.lt_of_lt_of_le (ok.live i b hi h1) fr.size
def noCells : Obj → Bool
  | .cells _ _ _ => false
  | _ => true
def Env.setRaw (e : Env) (i b : Nat) (o : Obj) : Env := { e with H := e.H.set i (.raw o), w := e.w.putObj b o }
theorem cell?_noCells {w : World} {b off : Nat} {o : Obj} (h : w.heap[b]? = some o) (ho : noCells o = true) : w.cell? ⟨b, off, none⟩ = none := by
  unfold World.cell?; simp only [h]; cases o <;> first | rfl | cases ho
theorem setRaw_all {e : Env} {i b : Nat} {o0 o : Obj} (ok : EnvOK e) (h : e.H[i]? = some (.raw o0)) (hb : e.μ i = some b) (h0 : noCells o0 = true) (h1 : noCells o = true) :
    EnvOK (e.setRaw i b o) ∧ Fr e (e.setRaw i b o) := by
  have hi := lt_of_get? h
  obtain ⟨b', hb', hh, hg⟩ := ok.objs i _ h
  rw [hb] at hb'; cases hb'
  have hlt := lt_of_heap hh
  have hlen : (e.setRaw i b o).H.length = e.H.length := by simp [Env.setRaw]
  have hsz : (e.setRaw i b o).w.heap.size = e.w.heap.size := by simp [Env.setRaw]
  have hT : ∀ j, (e.setRaw i b o).T j = e.T j := fun j => by
    unfold Env.T Env.setRaw; simp only
    by_cases hj : i = j
    · subst hj; rw [List.getElem?_set_self hi, h]; rfl
    · rw [List.getElem?_set_ne hj]
  have hoth : ∀ b', b' ≠ b → (e.setRaw i b o).w.heap[b']? = e.w.heap[b']? := fun b' hne => World.putObj_heap_other hne
  have hsame : (e.setRaw i b o).w.heap[b]? = some o := World.putObj_heap_same hlt
  have le : e.Le (e.setRaw i b o) := by
    refine ⟨by omega, fun j hj ht => ⟨by rw [hT]; exact ht, fun b' hb' => hb'⟩, fun b' off ho => ⟨ho, ?_⟩, fun j m ht => ⟨m, by rw [hT]; exact ht, Nat.le_refl _, fun _ => ⟨rfl, fun b' cs t hm hc => ⟨rfl, cs, ?_, rfl⟩⟩⟩⟩
    · by_cases hne : b' = b
      · subst hne; rw [cell?_noCells hh h0, cell?_noCells hsame h1]
      · exact cell?_of_heap (hoth b' hne)
    · have hne : b' ≠ b := fun hx => by
        subst hx; rw [hh] at hc; cases hc; cases h0
      exact (hoth b' hne).trans hc
  refine ⟨⟨fun b' hb' => ok.fresh b' (by omega), fun j q hq => ?_, fun j k b' hj hk => ok.inj j k b' (by omega) (by omega), fun j b' hj hm => by rw [hsz]; exact ok.live j b' (by omega) hm,
      ok.tabs.of (by omega) (fun b' hb' hno => hoth b' fun hx => by subst hx; exact hno i hi hb) fun j b' hj hm => .inr ⟨j, by omega, hm⟩⟩,
    ⟨by omega, ⟨rfl, rfl⟩, fun b' hb' hno => ⟨hoth b' (fun hx => by subst hx; exact hno i hi hb), rfl⟩, fun j b' hj hm => .inr ⟨j, by omega, hm⟩, le⟩⟩
  by_cases hj : i = j
  · subst hj
    simp only [Env.setRaw, List.getElem?_set_self hi, Option.some.injEq] at hq
    subst hq
    exact ⟨b, hb, hsame, hg⟩
  · have hq' : e.H[j]? = some q := by simpa [Env.setRaw, List.getElem?_set_ne hj] using hq
    refine ObjSim.mono le (ok.objs j q hq') rfl (fun b' hb' => ⟨hoth b' (fun hx => ?_), rfl⟩)
    subst hx
    exact hj (ok.inj i j b' hi (lt_of_get? hq') hb hb')
theorem push_raw {e : Env} (ok : EnvOK e) (ob : Obj) : ObjSim (e.push (.raw ob) ob) e.H.length (.raw ob) :=
  ⟨e.w.heap.size, by simp [Env.push], alloc_heap_new _ _, ok.fresh _ (Nat.le_refl _)⟩
def AYieldAt (es : Env) (P : Program) (l : Nat) (x : AV) (H : List AObj) (b : Bool) (H' : List AObj) : Prop :=
  ∀ e v, es.Le e → EnvOK e → e.H = H → Rep e x v → ∃ fn tmps assign body, (Instr.yield l #[v]).run P e.w = .ok (.round l fn tmps assign body) e.w ∧
    RoundIn (FW none) 0 P l fn tmps assign body e.w fun x w' => x = .returned (.bool b) ∧ ∃ e', e'.w = w' ∧ EnvOK e' ∧ Fr e e' ∧ e'.H = H'
theorem AYieldAt.mono {es es' : Env} {P : Program} {l : Nat} {x : AV} {H H' : List AObj} {b : Bool} (h : AYieldAt es P l x H b H') (k : es.Le es') : AYieldAt es' P l x H b H' :=
  fun e v hl ok hH hx => h e v (k.trans hl) ok hH hx
def goes (m : Nat) (st : Bool) (i : Nat) : Bool := !(st && Nat.beq (i + 1) m)
theorem objsIn_append {n : Nat} : ∀ {l m : List AObj}, objsIn n (l ++ m) = (objsIn n l && objsIn n m)
  | [], m => by simp [objsIn]
  | o :: l, m => by simp [objsIn, objsIn_append, Bool.and_assoc]
mutual
theorem AV.inB_mono {n n' : Nat} (h : n ≤ n') : ∀ (a : AV), a.inB n = true → a.inB n' = true
  | .any, _ => rfl
  | .raw _, _ => rfl
  | .agg l, k => by rw [AV.inB] at k ⊢; exact AV.inL_mono h l k
  | .tup l, k => by rw [AV.inB] at k ⊢; exact AV.inL_mono h l k
  | .iptr l, k => by rw [AV.inB] at k ⊢; exact AV.inL_mono h l k
  | .sl _ es, k => by rw [AV.inB] at k ⊢; exact AV.inE_mono h es k
  | .slx _ es, k => by rw [AV.inB] at k ⊢; exact AV.inE_mono h es k
  | .fn _ x y, k => by rw [AV.inB, Bool.and_eq_true] at k ⊢; exact ⟨AV.inL_mono h x k.1, AV.inL_mono h y k.2⟩
  | .ifc _ a, k => by rw [AV.inB] at k ⊢; exact AV.inB_mono h a k
  | .cnd _ a, k => by rw [AV.inB] at k ⊢; exact AV.inB_mono h a k
  | .ptr i _, k => by rw [AV.inB, Nat.blt_eq] at k ⊢; omega
  | .msl i _ _ _, k => by rw [AV.inB, Nat.blt_eq] at k ⊢; omega
  | .mslp i _ _, k => by rw [AV.inB, Nat.blt_eq] at k ⊢; omega
  | .uptr i _, k => by rw [AV.inB, Nat.blt_eq] at k ⊢; omega
  | .mp i, k => by rw [AV.inB, Nat.blt_eq] at k ⊢; omega
  | .own i _ es, k => by
    rw [AV.inB, Bool.and_eq_true, Nat.blt_eq] at k ⊢; exact ⟨by omega, AV.inE_mono h es k.2⟩
  | .ownb i _ _ es, k => by
    rw [AV.inB, Bool.and_eq_true, Nat.blt_eq] at k ⊢; exact ⟨by omega, AV.inE_mono h es k.2⟩
theorem AV.inL_mono {n n' : Nat} (h : n ≤ n') : ∀ (l : List AV), AV.inL n l = true → AV.inL n' l = true
  | [], _ => rfl
  | a :: l, k => by rw [AV.inL, Bool.and_eq_true] at k ⊢; exact ⟨AV.inB_mono h a k.1, AV.inL_mono h l k.2⟩
theorem AV.inE_mono {n n' : Nat} (h : n ≤ n') : ∀ (l : List (List AV)), AV.inE n l = true → AV.inE n' l = true
  | [], _ => rfl
  | c :: l, k => by rw [AV.inE, Bool.and_eq_true] at k ⊢; exact ⟨AV.inL_mono h c k.1, AV.inE_mono h l k.2⟩
end
theorem objsIn_mono {n n' : Nat} (h : n ≤ n') : ∀ {l : List AObj}, objsIn n l = true → objsIn n' l = true
  | [], _ => rfl
  | o :: l, k => by
    simp only [objsIn, Bool.and_eq_true] at k ⊢
    refine ⟨?_, objsIn_mono h k.2⟩
    cases o with
    | cells l => exact AV.inL_mono h l k.1
    | pre l => exact AV.inL_mono h l k.1
    | tcells _ l => exact AV.inL_mono h l k.1
    | _ => rfl
def jumpOK : Option Code → Bool
  | none | some .ret | some (.exit _) => true
  | _ => false
def jumpEx : Option Code → AExit → Prop
  | none, ax => ax = .normal
  | some .ret, ax => ax = .ret
  | some (.exit id), ax => ax = .exit id
  | some _, _ => False
section range
variable {c : Ctx} {Q : AExit → St → Prop} {s : St}
theorem le_cut {e e' : Env} {n : Nat} (h : e.Le e') (hn : e.H.length ≤ n) : e.Le (e'.cut n) := by
  have hl := h.len
  refine ⟨by rw [cut_H, List.length_take]; omega, fun i hi ht => ?_, h.cell, fun i m ht => ?_⟩
  · rw [Env.cut_T (by omega)]; exact h.obj i hi ht
  · have := T_lt ht
    rw [Env.cut_T (by omega)]; exact h.tok i m ht
theorem Fr.cut {e e' : Env} {n : Nat} (h : Fr e e') (hn : e.H.length ≤ n) : Fr e (e'.cut n) := by
  have hl : (e'.cut n).H.length ≤ e'.H.length := by rw [cut_H, List.length_take]; omega
  exact ⟨h.size, h.still, h.heap, fun i b hi => h.objs i b (by omega), le_cut h.le hn⟩
end range
end Go.Ab
namespace Go.Ab
variable [Tabs]
def imap (l : List (Int × Value)) : List (Value × Value) := l.map fun x => (.int .i64 x.1, x.2)
def mapPut (l : List (Int × Value)) (k : Int) (v : Value) : List (Int × Value) :=
  if l.any (fun x => decide (x.1 = k)) then l.map (fun x => if x.1 = k then (k, v) else x) else l ++ [(k, v)]
def isIntT (P : Program) (t : TypeId) : Bool := match P.underlying t with
  | some (.int .i64) => true
  | _ => false
theorem isIntT_eq {P : Program} {t : TypeId} (h : isIntT P t = true) : P.underlying t = some (.int .i64) := by
  unfold isIntT at h
  split at h
  · assumption
  · cases h
theorem run_checkKey {P : Program} {w : World} {kt : TypeId} (h : isIntT P kt = true) (b : Bool) (m : Nat) (k : IntKind) (n : Int) : (Instr.checkKey b (m + 1) kt (.int k n)).run P w = .ok () w := by
  unfold Instr.checkKey
  simp [run_und (isIntT_eq h)]
theorem findNow_int {n : Int} : ∀ {es : List MapEntry} {l : List (Int × Value)} (i : Nat), es.map (fun x => (x.key, x.val)) = imap l →
    Instr.findNow (.int .i64) (.int .i64 n) es i = some ((l.findIdx? fun x => decide (x.1 = n)).map fun j => (i + j, (l.getD j default).2))
  | [], l, i, h => by
    have : l = [] := by simpa [imap] using h.symm
    subst this; rfl
  | e :: es, [], i, h => by simp [imap] at h
  | e :: es, x :: l, i, h => by
    simp only [imap, List.map_cons, List.cons.injEq, Prod.mk.injEq] at h
    obtain ⟨⟨h1, h2⟩, h3⟩ := h
    have ih := findNow_int (n := n) (es := es) (l := l) (i + 1) (by simpa [imap] using h3)
    simp only [Instr.findNow, h1, Instr.sameNow, if_true]
    by_cases hx : x.1 = n
    · have : (n == x.1) = true := by simp [hx]
      rw [this]; simp [List.findIdx?_cons, hx, h2]
    · have : (n == x.1) = false := by simpa using fun e => hx e.symm
      rw [this]; simp only [ih, List.findIdx?_cons, hx, decide_false, Bool.false_eq_true, if_false, Option.map_map]
      congr 1
      cases l.findIdx? fun x => decide (x.1 = n) with
      | none => rfl
      | some j => simp [Nat.add_assoc, Nat.add_comm 1 j]
theorem run_findKey {P : Program} {w : World} {kt : TypeId} (h : isIntT P kt = true) {n : Int} {es : List MapEntry} {l : List (Int × Value)} (he : es.map (fun x => (x.key, x.val)) = imap l) :
    (Instr.findKey kt (.int .i64 n) es).run P w = .ok ((l.findIdx? fun x => decide (x.1 = n)).map fun j => (j, (l.getD j default).2)) w := by
  have hz : (fun j => (0 + j, (l.getD j default).2)) = fun j => (j, (l.getD j default).2) := by funext j; rw [Nat.zero_add]
  have hf := findNow_int (n := n) 0 he
  rw [hz] at hf
  simp [Instr.findKey, run_und (isIntT_eq h), hf]
def mapTy (P : Program) (t : TypeId) : Option (TypeId × TypeId) := match P.underlying t with
  | some (.map k e) => some (k, e)
  | _ => none
theorem mapTy_eq {P : Program} {t k e : TypeId} (h : mapTy P t = some (k, e)) : P.underlying t = some (.map k e) := by
  unfold mapTy at h
  split at h
  · rename_i k' e' h'; simp only [Option.some.injEq, Prod.mk.injEq] at h; obtain ⟨rfl, rfl⟩ := h; exact h'
  · cases h
theorem push_map {e : Env} : ObjSim (e.push (.map []) (.map #[] 0)) e.H.length (.map []) :=
  ⟨e.w.heap.size, #[], 0, by simp [Env.push], alloc_heap_new _ _, rfl⟩
section seq
variable {c : Ctx} {ops : Array Oper} {Q : AExit → St → Prop} {rest : List Oper} {s : St} {i : Nat}
variable {d : Option Tmp} {t : TypeId} {p : String} {af : Array Edge}
theorem sq_makeMap {mt : TypeId} (hd : dOK c.nt d = true) (k : SeqWP c ops Q (i + 1) rest (St.put { s with H := s.H ++ [.map []] } d (.mp s.H.length))) : SeqWP c ops Q i (⟨d, .makeMap mt none, t, p, af, none⟩ :: rest) s :=
  sq_run (by intro c h; cases h) hd (fun e ac hs => by
    refine ⟨.map (some e.w.heap.size), e.push (.map []) (.map #[] 0), ?_, hs.push push_map, ?_⟩
    · simp [execOp, Instr.makeMap, run_newObj_alloc, Env.push]
    · rw [Rep]
      refine ⟨by simp [Env.push, hs.H], ?_, e.w.heap.size, by simp [Env.push, hs.H], rfl⟩
      unfold Env.T; simp [Env.push, hs.H, tokOf]) k
def Env.setMap (e : Env) (i b : Nat) (l : List (Value × Value)) (o : Obj) : Env := { e with H := e.H.set i (.map l), w := e.w.putObj b o }
theorem setMap_sim {e : Env} {a : Act} (hs : Sim c s e a) {i b : Nat} {es0 es : List (Value × Value)} {ents0 ents : Array MapEntry} {cl0 cl : Nat} (h : s.H[i]? = some (.map es0)) (hb : e.μ i = some b)
    (hh : e.w.heap[b]? = some (.map ents0 cl0)) (hes : ents.toList.map (fun x => (x.key, x.val)) = es) : Sim c { s with H := s.H.set i (.map es) } (e.setMap i b es (.map ents cl)) a := by
  have h : e.H[i]? = some (.map es0) := by rw [hs.H]; exact h
  have ok := hs.ok
  have hi := lt_of_get? h
  have hlt := lt_of_heap hh
  have hlen : (e.setMap i b es (.map ents cl)).H.length = e.H.length := by simp [Env.setMap]
  have hsz : (e.setMap i b es (.map ents cl)).w.heap.size = e.w.heap.size := by simp [Env.setMap]
  have hT : ∀ j, (e.setMap i b es (.map ents cl)).T j = e.T j := fun j => by
    unfold Env.T Env.setMap; simp only
    by_cases hj : i = j
    · subst hj; rw [List.getElem?_set_self hi, h]; rfl
    · rw [List.getElem?_set_ne hj]
  have hoth : ∀ b', b' ≠ b → (e.setMap i b es (.map ents cl)).w.heap[b']? = e.w.heap[b']? := fun b' hne => World.putObj_heap_other hne
  have hsame : (e.setMap i b es (.map ents cl)).w.heap[b]? = some (.map ents cl) := World.putObj_heap_same hlt
  have le : e.Le (e.setMap i b es (.map ents cl)) := by
    refine ⟨by omega, fun j hj ht => ⟨by rw [hT]; exact ht, fun b' hb' => hb'⟩, fun b' off ho => ⟨ho, ?_⟩, fun j m ht => ⟨m, by rw [hT]; exact ht, Nat.le_refl _, fun _ => ⟨rfl, fun b' cs t hm hc => ⟨rfl, cs, ?_, rfl⟩⟩⟩⟩
    · by_cases hne : b' = b
      · subst hne; rw [cell?_noCells hh rfl, cell?_noCells hsame rfl]
      · exact cell?_of_heap (hoth b' hne)
    · have hne : b' ≠ b := fun hx => by
        subst hx; rw [hh] at hc; cases hc
      exact (hoth b' hne).trans hc
  refine ⟨hs.size, fun t => Rep.mono le _ (hs.slots t), hs.defers.mono le, by simp [Env.setMap, hs.H], ⟨fun b' hb' => ok.fresh b' (by omega), fun j q hq => ?_, fun j k b' hj hk => ok.inj j k b' (by omega) (by omega), fun j b' hj hm => by rw [hsz]; exact ok.live j b' (by omega) hm,
      ok.tabs.of (by omega) (fun b' hb' hno => hoth b' fun hx => by subst hx; exact hno i hi hb) fun j b' hj hm => .inr ⟨j, by omega, hm⟩⟩,
    hs.fr.trans ⟨by omega, ⟨rfl, rfl⟩, fun b' hb' hno => ⟨hoth b' (fun hx => by subst hx; exact hno i hi hb), rfl⟩, fun j b' hj hm => .inr ⟨j, by omega, hm⟩, le⟩⟩
  by_cases hj : i = j
  · subst hj
    simp only [Env.setMap, List.getElem?_set_self hi, Option.some.injEq] at hq
    subst hq
    exact ⟨b, ents, cl, hb, hsame, hes⟩
  · have hq' : e.H[j]? = some q := by simpa [Env.setMap, List.getElem?_set_ne hj] using hq
    refine ObjSim.mono le (ok.objs j q hq') rfl (fun b' hb' => ⟨hoth b' (fun hx => ?_), rfl⟩)
    subst hx
    exact hj (ok.inj i j b' hi (lt_of_get? hq') hb hb')
theorem put_found {l : List (Int × Value)} {ents : List MapEntry} {n : Int} {v : Value} (he : ents.map (fun x => (x.key, x.val)) = imap l) {j : Nat} (hnd : (l.map (·.1)).Nodup)
    (hj : l.findIdx? (fun x => decide (x.1 = n)) = some j) : (ents.modify j fun e => { e with key := .int .i64 n, val := v }).map (fun x => (x.key, x.val)) = imap (mapPut l n v) := by
  rw [List.findIdx?_eq_some_iff_getElem] at hj
  obtain ⟨hjl, hjn, hlt⟩ := hj
  simp only [decide_eq_true_eq] at hjn
  have hany : l.any (fun x => decide (x.1 = n)) = true := by
    rw [List.any_eq_true]; exact ⟨l[j], List.getElem_mem hjl, by simp [hjn]⟩
  have hlen : ents.length = l.length := by have := congrArg List.length he; simpa [imap] using this
  unfold mapPut; rw [if_pos hany]
  refine List.ext_getElem? fun q => ?_
  simp only [List.getElem?_map, List.getElem?_modify, imap]
  have hq := congrArg (·[q]?) he
  simp only [imap, List.getElem?_map] at hq
  by_cases hqj : j = q
  · subst hqj
    rw [List.getElem?_eq_getElem hjl, List.getElem?_eq_getElem (by omega)]
    simp [hjn]
  · simp only [if_neg hqj]
    cases hlq : l[q]? with
    | none => rw [hlq] at hq; simpa using hq
    | some y =>
      rw [hlq] at hq
      have hy : y.1 ≠ n := by
        intro e
        have hql := lt_of_get? hlq
        have h1 : (l.map (·.1))[q]'(by simpa using hql) = (l.map (·.1))[j]'(by simpa using hjl) := by
          simp only [List.getElem_map]
          have : l[q] = y := by rw [List.getElem?_eq_getElem hql] at hlq; exact Option.some.inj hlq
          rw [this, e, hjn]
        rcases Nat.lt_or_gt_of_ne hqj with h | h
        · exact List.pairwise_iff_getElem.1 hnd j q _ _ h h1.symm
        · exact List.pairwise_iff_getElem.1 hnd q j _ _ h h1
      simp only [Option.map_some, if_neg hy] at hq ⊢
      simpa using hq
theorem sq_mapUpdate {mt kt et : TypeId} {x y z : Operand} {j : Nat} {l : List (Int × Value)} {n : Int} {v : Value} (hd : dOK c.nt d = true) (hmt : mapTy c.P mt = some (kt, et)) (hkt : isIntT c.P kt = true)
    (hx : Less (s.op x) (.mp j)) (hy : Less (s.op y) (.raw (.int .i64 n))) (hz : Less (s.op z) (.raw v)) (hj : s.H[j]? = some (.map (imap l))) (hnd : (l.map (·.1)).Nodup)
    (k : SeqWP c ops Q (i + 1) rest (St.put { s with H := s.H.set j (.map (imap (mapPut l n v))) } d .any)) : SeqWP c ops Q i (⟨d, .mapUpdate mt x y z, t, p, af, none⟩ :: rest) s := by
  refine sq_op fun e a hs next hn => ?_
  have hxr := hx e _ (hs.op x)
  rw [Rep] at hxr
  obtain ⟨h1, h2, b, hb, hxv⟩ := hxr
  have hyv := rep_raw hy (hs.op y)
  have hzv := rep_raw hz (hs.op z)
  obtain ⟨b', ents, cl, hb', hh, hents⟩ := hs.ok.objs j _ (by rw [hs.H]; exact hj)
  rw [hb] at hb'; cases hb'
  have hg : ∀ o : Obj, (setObj b o).run c.P e.w = .ok () (e.w.putObj b o) := fun o => by simp [setObj, Sem.run, hh, World.putObj]
  have hgo : (getObj b).run c.P e.w = .ok (.map ents cl) e.w := by simp [getObj, Sem.run, hh]
  have hfk := run_findKey (P := c.P) (w := e.w) hkt (n := n) hents
  have key : ∃ ents' cl', (Instr.mapUpdate mt (.map (some b)) (.int .i64 n) v).run c.P e.w = .ok () (e.w.putObj b (.map ents' cl')) ∧ ents'.toList.map (fun x => (x.key, x.val)) = imap (mapPut l n v) := by
    cases hf : l.findIdx? (fun x => decide (x.1 = n)) with
    | none =>
      rw [hf] at hfk
      refine ⟨ents.push { key := .int .i64 n, val := v, born := cl }, cl + 1, ?_, ?_⟩
      · simp [Instr.mapUpdate, run_und (mapTy_eq hmt), hgo, run_checkKey hkt, hfk, hg]
      · have hany : l.any (fun x => decide (x.1 = n)) = false := by
          rw [List.findIdx?_eq_none_iff] at hf
          rw [List.any_eq_false]; intro y hy; simpa using hf y hy
        unfold mapPut; rw [hany]
        simp [hents, imap]
    | some q =>
      rw [hf] at hfk
      have hf' := hf
      rw [List.findIdx?_eq_some_iff_getElem] at hf'
      obtain ⟨hql, hqn, _⟩ := hf'
      simp only [decide_eq_true_eq] at hqn
      have hq := congrArg (·[q]?) hents
      simp only [imap, List.getElem?_map, List.getElem?_eq_getElem hql, Option.map_some, hqn] at hq
      have hkey : ((ents[q]?).map (·.key)).getD (.int .i64 n) = .int .i64 n := by
        rw [Array.getElem?_toList] at hq
        cases he : ents[q]? with
        | none => rfl
        | some en => rw [he] at hq; simp at hq; simp [hq.1]
      have hks : (Instr.keyThatStays (.int .i64 n) (.int .i64 n)).run c.P e.w = .ok (.int .i64 n) e.w := by
        have : Instr.sameBits 10000 (.int .i64 n) (.int .i64 n) = true := by simp [Instr.sameBits]
        simp [Instr.keyThatStays, this]
      refine ⟨ents.modify q fun e => { e with key := .int .i64 n, val := v }, cl, ?_, ?_⟩
      · simp [Instr.mapUpdate, run_und (mapTy_eq hmt), hgo, run_checkKey hkt, hfk, hkey, hks, hg]
      · rw [Array.toList_modify]; exact put_found hents hnd hf
  obtain ⟨ents', cl', hrun, hes⟩ := key
  refine ⟨about_FW _ _ _ _ _, ?_⟩
  show Oper.uponIn (FW c.r) 0 c.P _ a next (lift c Q) ((Oper.semAt c.r a.eval ⟨d, .mapUpdate mt x y z, t, p, af, none⟩).run c.P e.w)
  rw [semAt_of (by intro c h; cases h)]
  have : (execOp a.eval ⟨d, .mapUpdate mt x y z, t, p, af, none⟩).run c.P e.w = .ok .skip (e.setMap j b (imap (mapPut l n v)) (.map ents' cl')).w := by
    simp [execOp, hxv, hyv, hzv, hrun, Env.setMap]
  rw [this]
  exact hn _ _ _ k ((setMap_sim hs hj hb hh hes).put hd (by rw [Rep]; trivial))
end seq
section ev
variable {P : Program} {r : Option Nat} {H : List AObj} {ρ : Operand → AV}
variable {d : Option Tmp} {t : TypeId} {p : String} {af : Array Edge} {g : Option (Nat × Bool)}
end ev
theorem mapPut_keys (v : Value) : ∀ (l : List Int) (n : Int), (mapPut (l.map fun k => (k, v)) n v) = ((if n ∈ l then l else l ++ [n]).map fun k => (k, v)) := by
  intro l n
  unfold mapPut
  have h : (l.map fun k => ((k, v) : Int × Value)).any (fun x => decide (x.1 = n)) = decide (n ∈ l) := by
    rw [Bool.eq_iff_iff]; simp [List.any_eq_true]
  rw [h]
  by_cases hn : n ∈ l
  · simp only [hn, decide_true, if_true, List.map_map]
    refine List.map_congr_left fun k _ => ?_
    simp only [Function.comp]
    split
    · rename_i e; rw [e]
    · rfl
  · simp [hn]
section pan
variable {c : Ctx} {ops : Array Oper} {Q : AExit → St → Prop} {rest : List Oper} {s : St} {i : Nat}
variable {d : Option Tmp} {t : TypeId} {p : String} {af : Array Edge}
theorem sq_panic {x : Operand} {xt : TypeId} {a : AV} (hx : Less (s.op x) (.ifc xt a)) (k : Q (.panic (.ifc xt a)) s) : SeqWP c ops Q i (⟨d, .panic x, t, p, af, none⟩ :: rest) s := by
  refine sq_op fun e ac hs next hn => ?_
  have hxr := hx e _ (hs.op x)
  have hxr' := hxr
  rw [Rep] at hxr
  obtain ⟨u, hu, hr⟩ := hxr
  refine ⟨about_FW _ _ _ _ _, ?_⟩
  show Oper.uponIn (FW c.r) 0 c.P _ ac next (lift c Q) ((Oper.semAt c.r ac.eval ⟨d, .panic x, t, p, af, none⟩).run c.P e.w)
  rw [semAt_of (by intro c h; cases h)]
  have : (execOp ac.eval ⟨d, .panic x, t, p, af, none⟩).run c.P e.w = .halt (.panic (.iface xt u)) e.w := by
    simp [execOp, Instr.panic, hu, goPanic, Sem.run]
  rw [this]
  exact ⟨.panic (.ifc xt a), s, e, k, rfl, hs, .iface xt u, rfl, hu ▸ hxr'⟩
end pan
end Go.Ab
namespace Go.Ab
variable [Tabs]
section ev
variable {P : Program} {r : Option Nat} {H : List AObj} {ρ : Operand → AV}
variable {d : Option Tmp} {t : TypeId} {p : String} {af : Array Edge} {g : Option (Nat × Bool)}
theorem ev_slice_msl {xt et : TypeId} {sz j off len cap hi : Nat} {x q : Operand} (ht : slElem P xt = some (et, sz)) (hx : Less (ρ x) (.msl j off len cap)) (hq : Less (ρ q) (.raw (.int .i64 (hi : Int)))) (h2 : hi ≤ cap) :
    Ev P r ⟨d, .slice xt x none (some q) none, t, p, af, g⟩ H ρ (.msl j off hi cap) :=
  Ev.pure (by intro c h; cases h) fun e ρc ok hE hs => by
    obtain ⟨k1, ti, k2, rfl⟩ := slElem_und ht
    have := hx e _ (hs x (by simp [Op.operands]))
    rw [Rep] at this
    obtain ⟨a1, a2, b, hb, hv, hle⟩ := this
    have hhi := rep_raw hq (hs q (by simp [Op.operands]))
    have hbd : (Instr.sliceBounds true len cap (Option.map ρc none) (some (ρc q)) none).run P e.w = .ok (0, hi, cap) e.w := by
      simp [Instr.sliceBounds, Instr.sliceBound, hhi, asIntOf, h2]
    refine ⟨.slice (some ⟨b, off, none⟩) hi cap, ?_, ?_⟩
    · simp only [Option.map_none] at hbd
      simp [execOp, Instr.sliceAt, Instr.slice, run_und k1, hv, hbd, run_size k2, Addr.add]
    · rw [Rep]; exact ⟨a1, a2, b, hb, rfl, h2⟩
def AV.flat : AV → Bool
  | .any | .raw _ => true
  | .agg l | .tup l => l.all fun a => match a with | .raw _ => true | _ => false
  | .ifc _ (.raw _) => true
  | _ => false
theorem repL_raws {e e' : Env} : ∀ {l : List AV} {vs : List Value}, (l.all fun a => match a with | .raw _ => true | _ => false) = true → RepL e l vs → RepL e' l vs
  | [], _, _, k => by rw [RepL] at k ⊢; exact k
  | a :: l, _, h, k => by
    rw [RepL] at k; obtain ⟨v, rest, rfl, k1, k2⟩ := k
    simp only [List.all_cons, Bool.and_eq_true] at h
    cases a <;> simp at h
    rw [Rep] at k1; subst k1
    exact RepL.cons (by rw [Rep]) (repL_raws (by simpa using h) k2)
theorem rep_flat {e e' : Env} : ∀ {a : AV} {v : Value}, a.flat = true → Rep e a v → Rep e' a v
  | .any, _, _, _ => by rw [Rep]; trivial
  | .raw _, _, _, k => by rw [Rep] at k ⊢; exact k
  | .agg l, _, h, k => by rw [Rep] at k ⊢; obtain ⟨cs, h1, h2, h3⟩ := k; exact ⟨cs, h1, repL_raws h h2, h3⟩
  | .tup l, _, h, k => by rw [Rep] at k ⊢; obtain ⟨cs, h1, h2⟩ := k; exact ⟨cs, h1, repL_raws h h2⟩
  | .ifc t (.raw u), _, _, k => by rw [Rep] at k ⊢; obtain ⟨x, h1, h2⟩ := k; exact ⟨x, h1, by rw [Rep] at h2 ⊢; exact h2⟩
theorem slotsOf_fz {j n cap sz : Nat} {es : List (List AV)} : ∀ {l' l : List AV} (k : Nat), FzL j n cap sz es l' l → ∀ q ∈ slotsOf k l, Fz j n cap sz es (sget (slotsOf k l') q.1) q.2
  | _, _, k, .nil, q, hq => by cases hq
  | _, _, k, .cons h hl, q, hq => by
    rcases List.mem_cons.1 hq with e | e
    · subst e; simp only [slotsOf, sget]; simpa using h
    · have ih := slotsOf_fz (k + 1) hl q e
      have hk : k + 1 ≤ q.1 := by
        have : ∀ {l : List AV} {k : Nat} (q : Nat × AV), q ∈ slotsOf k l → k ≤ q.1 := by
          intro l
          induction l with
          | nil => intro k q h; cases h
          | cons a l ih => intro k q h; rcases List.mem_cons.1 h with e | e
                           · subst e; exact Nat.le_refl _
                           · have := ih q e; omega
        exact this q e
      simp only [slotsOf, sget]
      have : (k == q.1) = false := by simp; omega
      rw [this]; exact ih
end ev
section seq
variable {c : Ctx} {ops : Array Oper} {Q : AExit → St → Prop} {rest : List Oper} {s : St} {i : Nat}
variable {d : Option Tmp} {t : TypeId} {p : String} {af : Array Edge}
theorem sq_append_m {x y : Operand} {st xt et et' : TypeId} {j n cap sz bytes : Nat} {es xs : List (List AV)} {rs : List AV} (hd : dOK c.nt d = true)
    (hf : SlFact c.P st et sz bytes) (hk : c.P.underlying xt = some (.slice et')) (hx : Less (s.op x) (.msl j 0 n cap)) (hj : s.H[j]? = some (.cells (es.flatten ++ rs))) (hn : es.length = n) (hsz : ∀ q ∈ es, q.length = sz)
    (hrs : rs.length = (cap - n) * sz) (hy : Less (s.op y) (.sl sz xs))
    (hb : (n + xs.length) * bytes ≤ 140737488355328) (h63 : n + xs.length ≤ 9223372036854775807)
    (k1 : n + xs.length ≤ cap → SeqWP c ops Q (i + 1) rest (St.put { s with H := s.H.set j (.cells ((es ++ xs).flatten ++ rs.drop (xs.length * sz))) } d (.msl j 0 (n + xs.length) cap)))
    (k2 : ∀ cap', n + xs.length ≤ cap' → SeqWP c ops Q (i + 1) rest (St.put { s with H := s.H ++ [.cells ((es ++ xs).flatten ++ List.replicate ((cap' - (n + xs.length)) * sz) .any)] } d (.msl s.H.length 0 (n + xs.length) cap'))) :
    SeqWP c ops Q i (⟨d, .call ⟨.builtin .append, #[x, y], #[st, xt]⟩, t, p, af, none⟩ :: rest) s := by
  refine sq_op fun e ac hs next hn' => ?_
  have hu := hx e _ (hs.op x)
  have hv := hy e _ (hs.op y)
  rw [Rep] at hu
  obtain ⟨a1, a2, b, hbm, hv1, hle⟩ := hu
  have hxsz : ∀ q ∈ xs, q.length = sz := by rw [Rep] at hv; obtain ⟨_, _, _, _, _, _, _, h, _⟩ := hv; exact h
  obtain ⟨ti, z, t1, t2, rfl, rfl, t5, t6, t7⟩ := hf.ex
  obtain ⟨news, hsrc, hnw⟩ := src_of hk hv
  have hnl : news.length = xs.length * ti.size := hsrc.newsLen
  obtain ⟨b', cs, ct, q1, q2, q3, q4, q5⟩ := hs.ok.objs j _ (by rw [hs.H]; exact hj)
  rw [hbm] at q1; cases q1
  have hfl : es.flatten.length = n * ti.size := by rw [flatten_len hsz, hn]
  have hcl : cs.toList.length = n * ti.size + (cap - n) * ti.size := by rw [q4.length, List.length_append, hfl, hrs]
  refine ⟨about_FW _ _ _ _ _, ?_⟩
  show Oper.uponIn (FW c.r) 0 c.P _ ac next (lift c Q) (((Oper.semAt c.r ac.eval ⟨d, .call ⟨.builtin .append, #[x, y], #[st, xt]⟩, t, p, af, none⟩)).run c.P e.w)
  rw [semAt_of (by intro c h; cases h)]
  have hex : (execOp ac.eval ⟨d, .call ⟨.builtin .append, #[x, y], #[st, xt]⟩, t, p, af, none⟩).run c.P e.w = ((Builtin.append_ #[st, xt] t #[.slice (some ⟨b, 0, none⟩) n cap, ac.eval y]).run c.P e.w).andThen fun v w'' => .ok (.value v) w'' := by
    simp [execOp, resolve, invoke, builtin, hv1]
  rw [hex]
  by_cases hfit : n + xs.length ≤ cap
  · have hroom : n * ti.size + news.length ≤ cs.size := by
      have h1 : xs.length * ti.size ≤ (cap - n) * ti.size := Nat.mul_le_mul_right _ (by omega)
      rw [← Array.length_toList]; omega
    have hst := run_storeCells_at (P := c.P) b (n * ti.size) ct news 0 cs e.w q3 (by simpa using hroom) hsrc.one
    simp only [Nat.add_zero] at hst
    generalize hcs' : (cs.toList.take (n * ti.size) ++ news ++ cs.toList.drop (n * ti.size + news.length)).toArray = cs' at hst
    have hrun : (Builtin.append_ #[st, xt] t #[.slice (some ⟨b, 0, none⟩) n cap, ac.eval y]).run c.P e.w = .ok (.slice (some ⟨b, 0, none⟩) (n + xs.length) cap) (e.w.setRow b cs') := by
      rcases hsrc.kind with ⟨e', he'⟩ | he' <;> simp [Builtin.append_, run_und t1, run_und hk, run_size t2, hsrc.len, hfit, hsrc.cells, Addr.add_lit, hst]
    have hsp := RepL.splice q4 hnw (n * ti.size)
    have htl : (es.flatten ++ rs).take (n * ti.size) = es.flatten := by rw [← hfl, List.take_left']; rfl
    have hxl : xs.flatten.length = xs.length * ti.size := flatten_len hxsz
    have hdl : (es.flatten ++ rs).drop (n * ti.size + xs.flatten.length) = rs.drop (xs.length * ti.size) := by
      rw [← hfl, List.drop_append, hxl]; simp
    rw [htl, hdl, ← List.flatten_append] at hsp
    have hsim := hs.setObj (i := j) (b := b) (l := (es ++ xs).flatten ++ rs.drop (xs.length * ti.size)) (cs := cs') hj hbm q2 q3 (by rw [← hcs']; simpa using hsp) (by
      intro q hq
      rw [← hcs'] at hq
      simp only [List.mem_append] at hq
      rcases hq with (h | h) | h
      · exact q5 q (List.mem_of_mem_take h)
      · exact hsrc.one q h
      · exact q5 q (List.mem_of_mem_drop h))
    rw [hrun]
    have hw : e.w.setRow b cs' = (e.setObj j b ((es ++ xs).flatten ++ rs.drop (xs.length * ti.size)) cs').w := rfl
    rw [hw]
    refine hn' _ _ _ (k1 hfit) (hsim.put hd ?_)
    rw [Rep]
    exact ⟨by simpa [Env.setObj] using a1, by rw [Env.setObj_T (by rw [hs.H]; exact hj)]; exact a2, b, hbm, rfl, hfit⟩
  · have hcap := nextslicecap_le (show cap < n + xs.length by omega)
    have hold : (Builtin.firstCells ti.size n (.slice (some ⟨b, 0, none⟩) n cap)).run c.P e.w.drew = .ok (cs.toList.take (n * ti.size)).toArray e.w.drew := by
      refine run_firstCells_some e.w.drew ti.size n ⟨b, 0, none⟩ n cap (cs.toList.take (n * ti.size)) (by rw [List.length_take]; omega) (fun m u hm => ?_)
      have hml : m < n * ti.size := by have := lt_of_get? hm; rw [List.length_take] at this; omega
      rw [List.getElem?_take_of_lt hml] at hm
      rw [Addr.add_lit]
      show e.w.cell? _ = _
      unfold World.cell?; simp only [q3]; simpa using hm
    have hrun := run_append_grow_src (P := c.P) e.w st xt t et ti z t1 t2 t5 (some ⟨b, 0, none⟩) n cap _ hold (ac.eval y) xs.length news hsrc (by omega) (by omega) (by
      have := Nat.mul_le_mul_right ti.bytes hcap
      have h2 : 2 * (n + xs.length) * ti.bytes = 2 * ((n + xs.length) * ti.bytes) := by rw [Nat.mul_assoc]
      omega)
    have hle := grownCap_le e.w (n + xs.length) cap et
    generalize grownCap e.w (n + xs.length) cap et = cap' at hrun hle
    have hs1 := hs.ext (EnvOK.drew hs.ok)
    have leD := (EnvOK.drew hs.ok).le hs.ok
    have hzl : (Builtin.zeroCells z.cells (cap' - (n + xs.length))).toList.length = (cap' - (n + xs.length)) * ti.size := by
      simp only [Builtin.zeroCells, Array.toList_map, Array.toList_range, List.length_map, List.length_range, t7]
    have htk : RepL e es.flatten (cs.toList.take (n * ti.size)) := by
      have := q4.take (n * ti.size)
      have htl : (es.flatten ++ rs).take (n * ti.size) = es.flatten := by rw [← hfl, List.take_left']; rfl
      rwa [htl] at this
    have hrl : RepL { e with w := { e.w with drawn := e.w.drawn + 1 } } ((es ++ xs).flatten ++ List.replicate ((cap' - (n + xs.length)) * ti.size) .any) (((cs.toList.take (n * ti.size) ++ news).toArray ++ Builtin.zeroCells z.cells (cap' - (n + xs.length)))).toList := by
      rw [Array.toList_append, List.flatten_append]
      refine RepL.append ((RepL.mono leD _ htk).append (RepL.mono leD _ hnw)) ?_
      rw [← hzl]; exact RepL.anys _
    have hcell : ∀ q ∈ (((cs.toList.take (n * ti.size) ++ news).toArray ++ Builtin.zeroCells z.cells (cap' - (n + xs.length)))).toList, isCell q = true := by
      intro q hq
      rw [Array.toList_append] at hq
      rcases List.mem_append.1 hq with h | h
      · rcases List.mem_append.1 h with h | h
        · exact q5 q (List.mem_of_mem_take h)
        · exact hsrc.one q h
      · exact zeroCells_cell t6 _ q h
    have hs2 := hs1.push (push_cells (t := et) hs1.ok hrl hcell)
    rw [hrun]
    refine hn' _ _ _ (k2 cap' hle) (hs2.put hd ?_)
    rw [Rep]
    refine ⟨?_, ?_, e.w.heap.size, ?_, rfl, hle⟩
    · simp [Env.push, hs.H]
    · simp [Env.T, Env.push, hs.H, tokOf]
    · simp [Env.push, hs.H]
end seq
end Go.Ab
namespace Go.Ab
variable [Tabs]
def takeMarks : List AObj → List ADef → Option (List AObj)
  | H, [] => some H
  | H, .mark i :: l => match H[i]? with
    | some (.raw (.deferred (some []))) => takeMarks (H.set i (.raw (.deferred none))) l
    | _ => none
  | _, .call _ _ _ :: _ => none
theorem leaves_marks {P : Program} {fn : Func} {tmps : Array Value} {R : Ending → World → Prop} {u : FrameMode} (hu : u ≠ .run) : ∀ {df : List ADef} {ds : List Deferred} {e : Env} {H' : List AObj}, DRepL e df ds → EnvOK e → takeMarks e.H df = some H' →
    ∃ e', e'.H = H' ∧ EnvOK e' ∧ Fr e e' ∧ (LeavesInM (FW none) 0 P fn tmps R [] u e'.w → LeavesInM (FW none) 0 P fn tmps R ds u e.w)
  | [], ds, e, H', hd, ok, h => by
    simp only [takeMarks, Option.some.injEq] at h
    have := hd.of_nil rfl
    subst this
    exact ⟨e, h, ok, Fr.refl e, fun k => k⟩
  | .call _ _ _ :: _, _, _, _, _, _, h => by simp [takeMarks] at h
  | .mark i :: l, ds, e, H', hd, ok, h => by
    obtain ⟨d, rest, rfl, ⟨d1, d2, b, hb, rfl⟩, hr⟩ := hd
    simp only [takeMarks] at h
    split at h
    · rename_i hi
      obtain ⟨b', hb', hh, _⟩ := ok.objs i _ hi
      rw [hb] at hb'; cases hb'
      obtain ⟨ok1, fr1⟩ := setRaw_all (o := .deferred none) ok hi hb rfl rfl
      obtain ⟨e', k1, k2, k3, k4⟩ := leaves_marks (fn := fn) (tmps := tmps) (R := R) (P := P) hu (e := e.setRaw i b (.deferred none)) (hr.mono fr1.le) ok1 h
      exact ⟨e', k1, k2, fr1.trans k3, fun k => ⟨hu, .inl ⟨b, _, rfl, run_takeDeferred hh, k4 k⟩⟩⟩
    · cases h
def retQM (P : Program) (rs : List ResultVar) (R : ARes → List AObj → Prop) : AExit → St → Prop
  | .normal, s | .ret, s => ∃ H' v, takeMarks s.H s.df = some H' ∧ resAV P { s with H := H' } rs = some v ∧ R (.ret v) H'
  | .panic v, s => ∃ H', takeMarks s.H s.df = some H' ∧ R (.pan v) H'
  | _, _ => False
def ACallE (es : Env) (P : Program) (f : FuncId) (args : List AV) (H : List AObj) (R : ARes → List AObj → Prop) : Prop :=
  ∀ e (vs : Array Value), es.Le e → EnvOK e → e.H = H → RepL e args vs.toList →
    CallsIn (FW none) 0 P f vs e.w fun x w' => ∃ ax e', e'.w = w' ∧ EnvOK e' ∧ Fr e e' ∧ R ax e'.H ∧ endRep e' ax x
theorem acallE_of_marks {es : Env} {P : Program} {f : FuncId} {fn : Func} {code : Code} {args : List AV} {H : List AObj} {R : ARes → List AObj → Prop} {rs : List ResultVar}
    (hf : P.funcs[f]? = some fn) (hb : fn.body = some code) (hrs : fn.results = rs.toArray) (hn : args.length ≤ fn.ntmps)
    (h : ∀ e0, es.Le e0 → e0.H = H → AWP ⟨P, none, fn.ntmps, e0⟩ code (retQM P rs R) ⟨slotsOf 0 args, H, []⟩) : ACallE es P f args H R := by
  intro e vs hle ok hH hs
  refine callsIn_of_wp_marks hf hb trivial ?_
  have hlen := hs.length
  have hsz : vs.size = args.length := by simpa using hlen
  have hsim : Sim ⟨P, none, fn.ntmps, e⟩ ⟨slotsOf 0 args, H, []⟩ e { tmps := vs ++ Array.replicate (fn.ntmps - vs.size) undef, defers := [] } := by
    refine ⟨by simp; omega, fun t => ?_, DRepL.nil, hH, ok, Fr.refl e⟩
    rw [get_slotsOf]
    simp only [Nat.zero_le, if_true, Nat.sub_zero]
    cases ha : args[t]? with
    | none => simp only [Option.getD_none]; rw [Rep]; trivial
    | some a =>
      obtain ⟨u, h1, h2⟩ := hs.get t a ha
      have ht : t < vs.size := by have := (List.getElem?_eq_some_iff.1 h1).1; simpa using this
      have : (vs ++ Array.replicate (fn.ntmps - vs.size) undef).getD t undef = u := by
        rw [Array.getD_eq_getD_getElem?, Array.getElem?_append_left ht]
        have : vs[t]? = some u := by simpa using h1
        rw [this]; rfl
      rw [this]; exact h2
  refine wpIn_mono (h e hle hH e _ hsim) ?_
  rintro x a w ⟨ax, s, e1, hq, rfl, hs1, hx⟩
  have hdr := hs1.defers
  have fin : (∃ H' v, takeMarks s.H s.df = some H' ∧ resAV P { s with H := H' } rs = some v ∧ R (.ret v) H') →
      LeavesInM (FW none) 0 P fn a.tmps (fun x w' => ∃ ax e', e'.w = w' ∧ EnvOK e' ∧ Fr e e' ∧ R ax e'.H ∧ endRep e' ax x) a.defers .returning e1.w := by
    rintro ⟨H', v, hm, hv, hR⟩
    obtain ⟨e', k1, k2, k3, k4⟩ := leaves_marks (P := P) (fn := fn) (tmps := a.tmps) (R := fun x w' => ∃ ax e', e'.w = w' ∧ EnvOK e' ∧ Fr e e' ∧ R ax e'.H ∧ endRep e' ax x) (u := .returning) (by simp) hdr hs1.ok (by rw [hs1.H]; exact hm)
    have hs2 : Sim ⟨P, none, fn.ntmps, e⟩ { s with H := H' } e' a := ⟨hs1.size, fun t => Rep.mono k3.le _ (hs1.slots t), hs1.defers.mono k3.le, k1, k2, hs1.fr.trans k3⟩
    obtain ⟨u, h1, h2⟩ := run_results hs2 hrs hv
    exact k4 ⟨u, h1, .ret v, e', rfl, k2, hs1.fr.trans k3, by rw [k1]; exact hR, u, rfl, h2⟩
  cases ax with
  | normal => obtain rfl : x = .normal := hx; exact fin hq
  | ret => obtain rfl : x = .ret := hx; exact fin hq
  | panic v =>
    obtain ⟨u, rfl, hu⟩ := hx; obtain ⟨H', hm, hR⟩ := hq
    obtain ⟨e', k1, k2, k3, k4⟩ := leaves_marks (P := P) (fn := fn) (tmps := a.tmps) (R := fun x w' => ∃ ax e', e'.w = w' ∧ EnvOK e' ∧ Fr e e' ∧ R ax e'.H ∧ endRep e' ax x) (u := .panicking [{ v := u, recovered := false }]) (by simp) hdr hs1.ok (by rw [hs1.H]; exact hm)
    exact k4 ⟨.pan v, e', rfl, k2, hs1.fr.trans k3, by rw [k1]; exact hR, u, rfl, Rep.mono k3.le v hu⟩
  | exit _ => exact hq.elim
  | goto _ => exact hq.elim
theorem acall_of_marks {P : Program} {f : FuncId} {fn : Func} {code : Code} {args : List AV} {H : List AObj} {R : ARes → List AObj → Prop} {rs : List ResultVar}
    (hf : P.funcs[f]? = some fn) (hb : fn.body = some code) (hrs : fn.results = rs.toArray) (hn : args.length ≤ fn.ntmps)
    (h : ∀ e0, e0.H = H → AWP ⟨P, none, fn.ntmps, e0⟩ code (retQM P rs R) ⟨slotsOf 0 args, H, []⟩) : ACall P f args H R :=
  fun e vs => acallE_of_marks (es := e) hf hb hrs hn (fun e0 _ => h e0) e vs (.refl e)
theorem apure_of_marks {P : Program} {f : FuncId} {fn : Func} {code : Code} {args : List AV} {res : AV} {rs : List ResultVar}
    (hf : P.funcs[f]? = some fn) (hb : fn.body = some code) (hrs : fn.results = rs.toArray) (hn : args.length ≤ fn.ntmps) (hp : AV.pureL args = true) (hr : res.pureB = true)
    (h : ∀ e0, e0.H = [] → AWP ⟨P, none, fn.ntmps, e0⟩ code (retQM P rs fun x _ => ∃ v, x = .ret v ∧ Less v res) ⟨slotsOf 0 args, [], []⟩) : APure P f args res :=
  APure.of_acall hp hr (acall_of_marks hf hb hrs hn h)
theorem retQM_pure {P : Program} {rs : List ResultVar} {res v : AV} {s : St} {H' : List AObj} (hm : takeMarks s.H s.df = some H') (hv : resAV P { s with H := H' } rs = some v) (hl : Less v res) :
    retQM P rs (fun x _ => ∃ v, x = .ret v ∧ Less v res) .ret s := ⟨H', v, hm, hv, v, rfl, hl⟩
section seq
variable {c : Ctx} {ops : Array Oper} {Q : AExit → St → Prop} {rest : List Oper} {s : St} {i : Nat}
variable {d : Option Tmp} {t : TypeId} {p : String} {af : Array Edge}
theorem sq_callE {es : Env} {x : Operand} {as : Array Operand} {ats : Array TypeId} {f : FuncId} {first cap args : List AV} {R : ARes → List AObj → Prop} (hes : es.Le c.e0)
    (hd : dOK c.nt d = true) (he : Ent c.P f) (hx : Less (s.op x) (.fn (.func f) first cap))
    (ha : LessL (first ++ as.toList.map s.op ++ cap) args) (hc : ACallE es c.P f args s.H R)
    (k : ∀ v H', R (.ret v) H' → SeqWP c ops Q (i + 1) rest (St.put { s with H := H' } d v)) (kp : ∀ v H', R (.pan v) H' → Q (.panic v) { s with H := H' }) : SeqWP c ops Q i (⟨d, .call ⟨.value x, as, ats⟩, t, p, af, none⟩ :: rest) s := by
  refine sq_op fun e a hs next hn => ?_
  have hxr := hx e _ (hs.op x)
  rw [Rep] at hxr
  obtain ⟨fv, cv, hfv, h1, h2⟩ := hxr
  have h3 : RepL e (as.toList.map s.op) (as.toList.map a.eval) := RepL.mapped fun y _ => hs.op y
  refine ⟨about_FW _ _ _ _ _, ?_⟩
  show Oper.uponIn (FW c.r) 0 c.P _ a next (lift c Q) (((Oper.semAt c.r a.eval ⟨d, .call ⟨.value x, as, ats⟩, t, p, af, none⟩)).run c.P e.w)
  rw [semAt_of (by intro c h; cases h), run_callop hfv he]
  refine ⟨fun h => by simp [FW] at h, ?_⟩
  have := hc e (fv ++ as.map a.eval ++ cv) (hes.trans hs.fr.le) hs.ok hs.H (ha.rep (by simpa using (h1.append h3).append h2))
  refine CallsIn.mono (F := FW c.r) (n := 0) this ?_
  rintro x w' ⟨ax, e', rfl, ok', fr, hR, hend⟩
  cases ax with
  | ret v =>
    obtain ⟨u, rfl, hu⟩ := hend
    exact hn _ e' _ (k v e'.H hR) ((hs.after ok' fr).put hd hu)
  | pan v =>
    obtain ⟨u, rfl, hu⟩ := hend
    exact ⟨.panic v, _, e', kp v e'.H hR, rfl, hs.after ok' fr, u, rfl, hu⟩
theorem sq_yield {es : Env} {l : Nat} {x y : Operand} {ats : Array TypeId} {a : AV} {b : Bool} {H' : List AObj} (hes : es.Le c.e0) (hd : dOK c.nt d = true) (hx : Less (s.op x) (.fn (.yield l) [] [])) (hy : Less (s.op y) a)
    (hc : AYieldAt es c.P l a s.H b H') (k : SeqWP c ops Q (i + 1) rest (St.put { s with H := H' } d (.raw (.bool b)))) : SeqWP c ops Q i (⟨d, .call ⟨.value x, #[y], ats⟩, t, p, af, none⟩ :: rest) s := by
  refine sq_op fun e ac hs next hn => ?_
  have hxr := hx e _ (hs.op x)
  rw [Rep] at hxr
  obtain ⟨fv, cv, hfv, h1, h2⟩ := hxr
  rw [RepL] at h1 h2
  have h1 : fv = #[] := by simpa using h1
  have h2 : cv = #[] := by simpa using h2
  subst h1; subst h2
  obtain ⟨fn, tmps, assign, body, hrun, hround⟩ := hc e (ac.eval y) (hes.trans hs.fr.le) hs.ok hs.H (hy _ _ (hs.op y))
  refine ⟨about_FW _ _ _ _ _, ?_⟩
  show Oper.uponIn (FW c.r) 0 c.P _ ac next (lift c Q) (((Oper.semAt c.r ac.eval ⟨d, .call ⟨.value x, #[y], ats⟩, t, p, af, none⟩)).run c.P e.w)
  rw [semAt_of (by intro c h; cases h)]
  have hex : (execOp ac.eval ⟨d, .call ⟨.value x, #[y], ats⟩, t, p, af, none⟩).run c.P e.w = (Instr.yield l #[ac.eval y]).run c.P e.w := by
    simp [execOp, resolve, hfv, Deferred.ofValue, invoke]
  rw [hex, hrun]
  refine ⟨fun h => by simp [FW] at h, ?_⟩
  refine RoundIn.mono (F := FW none) (n := 0) hround ?_
  rintro ex w' ⟨rfl, e', rfl, ok', fr, hH'⟩
  have := hs.after ok' fr
  rw [hH'] at this
  exact hn _ e' _ k (this.put hd (by rw [Rep]))
theorem sq_defer {x : Operand} {as : Array Operand} {ats : Array TypeId} {f : Fn} {first cap : List AV} (hr : c.r = none) (hd : dOK c.nt d = true) (hx : Less (s.op x) (.fn f first cap))
    (k : SeqWP c ops Q (i + 1) rest (St.put { s with df := .call f (first ++ as.toList.map s.op) cap :: s.df } d .any)) : SeqWP c ops Q i (⟨d, .defer ⟨.value x, as, ats⟩, t, p, af, none⟩ :: rest) s := by
  refine sq_op fun e ac hs next hn => ?_
  have hxr := hx e _ (hs.op x)
  rw [Rep] at hxr
  obtain ⟨fv, cv, hfv, h1, h2⟩ := hxr
  have h3 : RepL e (as.toList.map s.op) (as.toList.map ac.eval) := RepL.mapped fun y _ => hs.op y
  refine ⟨about_FW _ _ _ _ _, ?_⟩
  show Oper.uponIn (FW c.r) 0 c.P _ ac next (lift c Q) (((Oper.semAt c.r ac.eval ⟨d, .defer ⟨.value x, as, ats⟩, t, p, af, none⟩)).run c.P e.w)
  rw [hr, Oper.semAt_none]
  have hex : (execOp ac.eval ⟨d, .defer ⟨.value x, as, ats⟩, t, p, af, none⟩).run c.P e.w = .ok (.defer { target := .fn f cv, args := fv ++ as.map ac.eval }) e.w := by
    simp [execOp, resolve, hfv, Deferred.ofValue]
  rw [hex]
  have hs' : Sim c { s with df := .call f (first ++ as.toList.map s.op) cap :: s.df } e { ac with defers := { target := .fn f cv, args := fv ++ as.map ac.eval } :: ac.defers } :=
    ⟨hs.size, hs.slots, DRepL.cons ⟨_, _, rfl, by simpa using h1.append h3, h2⟩ hs.defers, hs.H, hs.ok, hs.fr⟩
  exact hn _ e _ k (hs'.put hd (by rw [Rep]; trivial))
end seq
def modeIs (e : Env) : Option AV → FrameMode → Prop
  | none, u => u = .returning
  | some a, u => ∃ v, u = .panicking [{ v, recovered := false }] ∧ Rep e a v
def ADefer (P : Program) (f : FuncId) (caps : List AV) (H : List AObj) (rv : Option AV) (R : List AObj → Prop) : Prop :=
  ∀ e (vs : Array Value) u, EnvOK e → e.H = H → RepL e caps vs.toList → modeIs e rv u →
    CallsDIn (FW none) 0 P f vs u e.w fun x u' w' => ∃ v e', x = .returned v ∧ settle u' = .returning ∧ e'.w = w' ∧ EnvOK e' ∧ Fr e e' ∧ R e'.H
theorem adefer_of {P : Program} {f : FuncId} {fn : Func} {rest : Code} {id : Nat} {d : Tmp} {t : TypeId} {p : String} {caps : List AV} {H : List AObj} {rv : Option AV} {R : List AObj → Prop} {ats : Array TypeId}
    (hf : P.funcs[f]? = some fn) (hb : fn.body = some (.seq (.region id #[⟨some d, .call ⟨.builtin .recover, #[], ats⟩, t, p, #[], none⟩] false) rest)) (hrs : fn.results = #[]) (hn : caps.length ≤ fn.ntmps) (hd : Nat.blt d fn.ntmps = true)
    (h : ∀ e0, e0.H = H → AWP ⟨P, none, fn.ntmps, e0⟩ rest (fun ax s' => (ax = .normal ∨ ax = .ret) ∧ s'.df = [] ∧ R s'.H) ⟨(d, rv.getD (.raw .nilIface)) :: slotsOf 0 caps, H, []⟩) : ADefer P f caps H rv R := by
  intro e vs u ok hH hs hu
  refine callsDIn_of_wpSIn hf hb trivial fun c₀ cs hm => ?_
  have hlen := hs.length
  have hsz : vs.size = caps.length := by simpa using hlen
  have hsim : Sim ⟨P, none, fn.ntmps, e⟩ ⟨slotsOf 0 caps, H, []⟩ e { tmps := vs ++ Array.replicate (fn.ntmps - vs.size) undef, defers := [] } := by
    refine ⟨by simp; omega, fun t => ?_, DRepL.nil, hH, ok, Fr.refl e⟩
    rw [get_slotsOf]
    simp only [Nat.zero_le, if_true, Nat.sub_zero]
    cases ha : caps[t]? with
    | none => simp only [Option.getD_none]; rw [Rep]; trivial
    | some a =>
      obtain ⟨u, h1, h2⟩ := hs.get t a ha
      have ht : t < vs.size := by have := (List.getElem?_eq_some_iff.1 h1).1; simpa using this
      have : (vs ++ Array.replicate (fn.ntmps - vs.size) undef).getD t undef = u := by
        rw [Array.getD_eq_getD_getElem?, Array.getElem?_append_left ht]
        have : vs[t]? = some u := by simpa using h1
        rw [this]; rfl
      rw [this]; exact h2
  generalize ({ tmps := vs ++ Array.replicate (fn.ntmps - vs.size) undef, defers := [] } : Act) = a at hsim ⊢
  obtain ⟨u', v, hrec, hset, hv⟩ : ∃ u' v, (match recoverD (c₀ :: cs) with | some (v', cs') => v' = v ∧ cs' = { c₀ with mode := u' } :: cs | none => v = .nilIface ∧ c₀ = { c₀ with mode := u' }) ∧ settle u' = .returning ∧ Rep e (rv.getD (.raw .nilIface)) v := by
    cases rv with
    | none =>
      have hu : u = .returning := hu
      subst hu
      refine ⟨.returning, .nilIface, ?_, rfl, by simp only [Option.getD_none]; rw [Rep]⟩
      have : recoverD (c₀ :: cs) = none := by simp [recoverD, hm]
      rw [this]
      exact ⟨rfl, by rw [← hm]⟩
    | some q =>
      obtain ⟨v, hu, hv⟩ := hu
      subst hu
      refine ⟨.panicking [{ v, recovered := true }], v, ?_, rfl, hv⟩
      have : recoverD (c₀ :: cs) = some (v, { c₀ with mode := .panicking [{ v, recovered := true }] } :: cs) := by simp [recoverD, hm]
      rw [this]; exact ⟨rfl, rfl⟩
  have hsim1 := hsim.put (d := some d) hd hv
  have hrest := h e hH e _ hsim1
  have hex : (execOp a.eval ⟨some d, .call ⟨.builtin .recover, #[], ats⟩, t, p, #[], none⟩).run P e.w = .ok .recover e.w := by
    simp [execOp, resolve, invoke, builtin]
  have fin : rest.wpSIn (FW none) 0 P (bodyPostS P fn c₀ cs fun x u' w' => ∃ v e', x = .returned v ∧ settle u' = .returning ∧ e'.w = w' ∧ EnvOK e' ∧ Fr e e' ∧ R e'.H) (a.put (some d) v) ({ c₀ with mode := u' } :: cs) e.w := by
    refine wpSIn_of_wpIn rfl (wpIn_mono hrest ?_)
    rintro ex a' w ⟨ax, s', e', ⟨hax, hdf, hR⟩, rfl, hs', hex'⟩
    have hres : (results fn a'.tmps).run P e'.w = .ok (.tuple #[]) e'.w := by rw [results_eq, hrs]; simp
    have hpost : a'.defers = [] ∧ ∃ u'', ({ c₀ with mode := u' } :: cs : List Frame) = { c₀ with mode := u'' } :: cs ∧ ∃ v, (results fn a'.tmps).run P e'.w = .ok v e'.w ∧ ∃ v' e'', Ending.returned v = .returned v' ∧ settle u'' = .returning ∧ e''.w = e'.w ∧ EnvOK e'' ∧ Fr e e'' ∧ R e''.H :=
      ⟨hs'.defers.of_nil hdf, u', rfl, _, hres, _, e', rfl, hset, rfl, hs'.ok, hs'.fr, by rw [hs'.H]; exact hR⟩
    rcases hax with rfl | rfl
    · obtain rfl : ex = .normal := hex'; exact hpost
    · obtain rfl : ex = .ret := hex'; exact hpost
  refine wpSIn_seq (wpSIn_region ?_)
  show wpOpsSIn (FW none) 0 P _ _ [0] a (c₀ :: cs) e.w
  generalize hops : (#[⟨some d, .call ⟨.builtin .recover, #[], ats⟩, t, p, #[], none⟩] : Array Oper) = ops
  have hget : ops[0]? = some ⟨some d, .call ⟨.builtin .recover, #[], ats⟩, t, p, #[], none⟩ := by rw [← hops]; rfl
  have hw : Region.wanted (⟨some d, .call ⟨.builtin .recover, #[], ats⟩, t, p, #[], none⟩ : Oper) (yielded ops a.tmps) = true := rfl
  simp only [wpOpsSIn, hget]
  refine ⟨about_FW _ _ _ _ _, ?_⟩
  rw [if_pos hw, hex]
  simp only
  cases hr : recoverD (c₀ :: cs) with
  | none =>
    rw [hr] at hrec
    obtain ⟨rfl, hc⟩ := hrec
    simp only
    show rest.wpSIn (FW none) 0 P _ _ (c₀ :: cs) e.w
    rw [← hc] at fin; exact fin
  | some q =>
    obtain ⟨v', cs'⟩ := q
    rw [hr] at hrec
    obtain ⟨rfl, rfl⟩ := hrec
    exact fin
def retQD (P : Program) (rs : List ResultVar) (f2 : FuncId) (R : ARes → List AObj → Prop) : AExit → St → Prop
  | .normal, s | .ret, s => ∃ caps R2, s.df = [.call (.func f2) [] caps] ∧ ADefer P f2 caps s.H none R2 ∧ ∀ H', R2 H' → ∃ v, resAV P { s with H := H' } rs = some v ∧ R (.ret v) H'
  | .panic a, s => ∃ caps R2, s.df = [.call (.func f2) [] caps] ∧ ADefer P f2 caps s.H (some a) R2 ∧ ∀ H', R2 H' → ∃ v, resAV P { s with H := H' } rs = some v ∧ R (.ret v) H'
  | _, _ => False
theorem acall_of_defer {P : Program} {f f2 : FuncId} {fn : Func} {code : Code} {args : List AV} {H : List AObj} {R : ARes → List AObj → Prop} {rs : List ResultVar}
    (hf : P.funcs[f]? = some fn) (hb : fn.body = some code) (hrs : fn.results = rs.toArray) (hn : args.length ≤ fn.ntmps) (he2 : Ent P f2)
    (h : ∀ e0, e0.H = H → AWP ⟨P, none, fn.ntmps, e0⟩ code (retQD P rs f2 R) ⟨slotsOf 0 args, H, []⟩) : ACall P f args H R := by
  intro e vs ok hH hs
  refine callsIn_of_wp_defers hf hb trivial ?_
  have hlen := hs.length
  have hsz : vs.size = args.length := by simpa using hlen
  have hsim : Sim ⟨P, none, fn.ntmps, e⟩ ⟨slotsOf 0 args, H, []⟩ e { tmps := vs ++ Array.replicate (fn.ntmps - vs.size) undef, defers := [] } := by
    refine ⟨by simp; omega, fun t => ?_, DRepL.nil, hH, ok, Fr.refl e⟩
    rw [get_slotsOf]
    simp only [Nat.zero_le, if_true, Nat.sub_zero]
    cases ha : args[t]? with
    | none => simp only [Option.getD_none]; rw [Rep]; trivial
    | some a =>
      obtain ⟨u, h1, h2⟩ := hs.get t a ha
      have ht : t < vs.size := by have := (List.getElem?_eq_some_iff.1 h1).1; simpa using this
      have : (vs ++ Array.replicate (fn.ntmps - vs.size) undef).getD t undef = u := by
        rw [Array.getD_eq_getD_getElem?, Array.getElem?_append_left ht]
        have : vs[t]? = some u := by simpa using h1
        rw [this]; rfl
      rw [this]; exact h2
  refine wpIn_mono (h e hH e _ hsim) ?_
  rintro x a w ⟨ax, s, e1, hq, rfl, hs1, hx⟩
  have fin : ∀ (rv : Option AV) (u : FrameMode), u ≠ .run → modeIs e1 rv u →
      (∃ caps R2, s.df = [.call (.func f2) [] caps] ∧ ADefer P f2 caps s.H rv R2 ∧ ∀ H', R2 H' → ∃ v, resAV P { s with H := H' } rs = some v ∧ R (.ret v) H') →
      LeavesIn (FW none) 0 P fn a.tmps (fun x w' => ∃ ax e', e'.w = w' ∧ EnvOK e' ∧ Fr e e' ∧ R ax e'.H ∧ endRep e' ax x) a.defers u e1.w := by
    rintro rv u hu hm ⟨caps, R2, hdf, hD, hfin⟩
    have hdr := hs1.defers
    rw [hdf] at hdr
    obtain ⟨d, rest, hde, ⟨av, cv, rfl, hav, hcv⟩, hr⟩ := hdr
    have : rest = [] := hr
    subst this
    have hav' : av = #[] := by rw [RepL] at hav; simpa using hav
    subst hav'
    rw [hde]
    refine ⟨hu, fun h => by simp [FW] at h, _, _, f2, #[] ++ cv, rfl, he2 _ _, fun _ _ => trivial, ?_⟩
    refine CallsDIn.mono (hD e1 (#[] ++ cv) u hs1.ok hs1.H (by simpa using hcv) hm) ?_
    rintro ex u' w' ⟨v, e', rfl, hset, rfl, ok', fr', hR2⟩
    show LeavesIn (FW none) 0 P fn a.tmps _ [] (settle u') e'.w
    rw [hset]
    obtain ⟨q, hv, hR⟩ := hfin _ hR2
    have hs2 : Sim ⟨P, none, fn.ntmps, e⟩ ⟨s.sl, e'.H, []⟩ e' { a with defers := [] } := ⟨hs1.size, fun t => Rep.mono fr'.le _ (hs1.slots t), DRepL.nil, rfl, ok', hs1.fr.trans fr'⟩
    have hv' : resAV P ⟨s.sl, e'.H, []⟩ rs = some q := by
      have e1 : resAV P ⟨s.sl, e'.H, []⟩ rs = resAV P { s with H := e'.H } rs := by
        have e2 : ∀ x, resVar P ⟨s.sl, e'.H, []⟩ x = resVar P { s with H := e'.H } x := fun x => by cases x <;> rfl
        match rs with
        | [] => rfl
        | [x] => simp only [resAV, e2]
        | [x, y] => simp only [resAV, e2]
        | [x, y, z] => simp only [resAV, e2]
        | _ :: _ :: _ :: _ :: _ => rfl
      rw [e1]; exact hv
    obtain ⟨u2, h1, h2⟩ := run_results hs2 hrs hv'
    exact ⟨u2, h1, .ret q, e', rfl, ok', hs1.fr.trans fr', hR, u2, rfl, h2⟩
  cases ax with
  | normal => obtain rfl : x = .normal := hx; exact fin none .returning (by simp) rfl hq
  | ret => obtain rfl : x = .ret := hx; exact fin none .returning (by simp) rfl hq
  | panic v => obtain ⟨u, rfl, hu⟩ := hx; exact fin (some v) _ (by simp) ⟨u, rfl, hu⟩ hq
  | exit _ => exact hq.elim
  | goto _ => exact hq.elim
end Go.Ab
namespace Go.Ab
variable [Tabs]
section ops
variable {P : Program} {r : Option Nat} {H : List AObj} {ρ : Operand → AV}
variable {d : Option Tmp} {t : TypeId} {p : String} {af : Array Edge} {g : Option (Nat × Bool)}
variable {x y z : Operand}
theorem ba_eq (a b : ByteArray) : (a.toList == b.toList) = decide (a = b) := by
  rw [ByteArray.toList_eq, ByteArray.toList_eq, Bool.eq_iff_iff, beq_iff_eq, decide_eq_true_eq]
  constructor
  · intro h; cases a; cases b; congr 1; exact Array.ext' h
  · rintro rfl; rfl
theorem ev_str2 {op : BinOp} {a b : ByteArray} {xt yt : TypeId} {v : AV} (hx : Less (ρ x) (.raw (.string a))) (hy : Less (ρ y) (.raw (.string b)))
    (hr : ∀ w e, ∃ u, (binOp op xt (.string a) (.string b)).run P w = .ok u w ∧ Rep e v u) : Ev P r ⟨d, .binOp op xt x y yt, t, p, af, g⟩ H ρ v :=
  Ev.pure (by intro c h; cases h) fun e ρc _ _ hs => by
    have e1 := rep_raw hx (hs x (by simp [Op.operands]))
    have e2 := rep_raw hy (hs y (by simp [Op.operands]))
    obtain ⟨u, h1, h2⟩ := hr e.w e
    refine ⟨u, ?_, h2⟩
    have hg : (eqGuard op xt x y (.string a) (.string b)).run P e.w = .ok () e.w := by
      unfold eqGuard; cases op <;> simp
    simp [execOp, e1, e2, h1, hg]
theorem ev_concat {a b : ByteArray} {xt yt : TypeId} (hx : Less (ρ x) (.raw (.string a))) (hy : Less (ρ y) (.raw (.string b))) (hl : a.size + b.size ≤ 9223372036854775807) :
    Ev P r ⟨d, .binOp .add xt x y yt, t, p, af, g⟩ H ρ (.raw (.string (a ++ b))) :=
  ev_str2 hx hy fun w e => ⟨_, by
    have : ¬ (((a.size + b.size : Nat) : Int) > IntKind.i64.max) := by
      have : IntKind.i64.max = 9223372036854775807 := rfl
      omega
    simp only [binOp, Op.stringOp, if_neg this]; rfl, by rw [Rep]⟩
theorem ev_seql {a b : ByteArray} {xt yt : TypeId} (hx : Less (ρ x) (.raw (.string a))) (hy : Less (ρ y) (.raw (.string b))) :
    Ev P r ⟨d, .binOp .eql xt x y yt, t, p, af, g⟩ H ρ (.raw (.bool (decide (a = b)))) :=
  ev_str2 hx hy fun w e => ⟨.bool (a.toList == b.toList), by simp [binOp, Op.stringOp], by rw [Rep, ba_eq]⟩
theorem ev_conv_int {src dst : TypeId} {sk : TypeDesc} {k k' : IntKind} {n q : Int} (hs1 : P.underlying src = some sk) (hd1 : P.underlying dst = some (.int k')) (hx : Less (ρ x) (.raw (.int k n))) (hq : k'.wrap n = q) :
    Ev P r ⟨d, .convert src dst x, t, p, af, g⟩ H ρ (.raw (.int k' q)) :=
  Ev.pure (by intro c h; cases h) fun e ρc ok hE hs => by
    have e1 := rep_raw hx (hs x (by simp [Op.operands]))
    refine ⟨.int k' q, ?_, by rw [Rep]⟩
    simp [execOp, convert, run_und hs1, run_und hd1, e1, Conv.intToInt, hq]
theorem repL_raws_eq {e : Env} : ∀ {vs us : List Value}, RepL e (vs.map .raw) us → us = vs
  | [], us, h => by rw [List.map_nil, RepL] at h; exact h
  | v :: vs, us, h => by
    rw [List.map_cons, RepL] at h
    obtain ⟨u, rest, rfl, h1, h2⟩ := h
    rw [Rep] at h1; subst h1
    rw [repL_raws_eq h2]
theorem less_agg_raw {l : List AV} {vs : List Value} (h : l = vs.map .raw) : Less (.agg l) (.raw (.agg vs.toArray)) := fun e v k => by
  subst h
  rw [Rep] at k
  obtain ⟨cs, hv, h1, _⟩ := k
  have h2 := repL_raws_eq h1
  have h3 : cs = vs.toArray := Array.ext' (by simpa using h2)
  subst h3; subst hv
  simp only [Rep]
theorem ev_assert_yes {xt at_ : TypeId} {a : AV} (ht : notIface P at_ = true) (hx : Less (ρ x) (.ifc at_ a)) : Ev P r ⟨d, .typeAssert x xt at_ true, t, p, af, g⟩ H ρ (.tup [a, .raw (.bool true)]) :=
  Ev.pure (by intro c h; cases h) fun e ρc ok hE hs => by
    have := hx e _ (hs x (by simp [Op.operands]))
    rw [Rep] at this
    obtain ⟨u, h1, h2⟩ := this
    unfold notIface at ht
    refine ⟨.tuple #[u, .bool true], ?_, by rw [Rep]; exact ⟨_, rfl, RepL.cons h2 (RepL.cons (by rw [Rep]) RepL.nil)⟩⟩
    cases hu : P.underlying at_ with
    | none => rw [hu] at ht; cases ht
    | some dsc =>
      rw [hu] at ht
      cases dsc <;> first | (simp [execOp, Instr.typeAssert, run_und hu, h1]; done) | cases ht
theorem ev_assert_no {xt at_ dt : TypeId} {a : AV} {z : List AV} (ht : notIface P at_ = true) (hz : zeroOf P at_ = some z) (hne : Nat.beq dt at_ = false) (hx : Less (ρ x) (.ifc dt a)) :
    Ev P r ⟨d, .typeAssert x xt at_ true, t, p, af, g⟩ H ρ (.tup [.any, .raw (.bool false)]) :=
  Ev.pure (by intro c h; cases h) fun e ρc ok hE hs => by
    have := hx e _ (hs x (by simp [Op.operands]))
    rw [Rep] at this
    obtain ⟨u, h1, h2⟩ := this
    obtain ⟨z0, hz0, _⟩ := zeroOf_run hz
    have hne' : dt ≠ at_ := fun h => by subst h; simp at hne
    unfold notIface at ht
    refine ⟨.tuple #[z0, .bool false], ?_, by rw [Rep]; exact ⟨_, rfl, RepL.cons (by rw [Rep]; trivial) (RepL.cons (by rw [Rep]) RepL.nil)⟩⟩
    cases hu : P.underlying at_ with
    | none => rw [hu] at ht; cases ht
    | some dsc =>
      rw [hu] at ht
      cases dsc <;> first | (simp [execOp, Instr.typeAssert, run_und hu, h1, hne', hz0]; done) | cases ht
theorem ev_ifc_eqnil {xt yt : TypeId} {dt : TypeId} {a : AV} {ms : Array (String × TypeId)} (hu : P.underlying xt = some (.interface ms)) (hx : Less (ρ x) (.ifc dt a)) (hy : Less (ρ y) (.raw .nilIface)) :
    Ev P r ⟨d, .binOp .eql xt x y yt, t, p, af, g⟩ H ρ (.raw (.bool false)) :=
  Ev.pure (by intro c h; cases h) fun e ρc ok hE hs => by
    have := hx e _ (hs x (by simp [Op.operands]))
    rw [Rep] at this
    obtain ⟨u, h1, h2⟩ := this
    have h3 := rep_raw hy (hs y (by simp [Op.operands]))
    refine ⟨.bool false, ?_, by rw [Rep]⟩
    have he : (Op.equal xt (.iface dt u) .nilIface).run P e.w = .ok false e.w := by
      show (Op.equalIn (9999 + 1) xt (.iface dt u) .nilIface).run P e.w = _
      rw [Op.equalIn]; simp [run_und hu]
    have hg : (eqGuard .eql xt x y (.iface dt u) .nilIface).run P e.w = .ok () e.w := by simp [eqGuard]
    have hb : (binOp .eql xt (.iface dt u) .nilIface).run P e.w = .ok (.bool false) e.w := by
      show (do pure (.bool (← Op.equal xt (.iface dt u) .nilIface)) : Sem Value).run P e.w = _
      simp [he]
    simp only [execOp, h1, h3]
    simp [hg, hb]
end ops
end Go.Ab
namespace Go.Ab
variable [Tabs]
structure QSim (c : Ctx) (s : St) (e : Env) (a : Act) : Prop where
  sim : Sim c s e a
  ext : Ext c.e0 e
section q
variable {c : Ctx} {Q : AExit → St → Prop} {s : St}
variable {ops : Array Oper} {rest : List Oper} {i : Nat} {d : Option Tmp} {op : Op} {t : TypeId} {p : String} {af : Array Edge}
end q
def AQuiet (P : Program) (f : FuncId) (args : List AV) (H : List AObj) (res : AV) : Prop :=
  ∀ e (vs : Array Value), EnvOK e → HSub H e.H → RepL e args vs.toList →
    CallsIn (FW none) 0 P f vs e.w fun x w' => ∃ u e', x = .returned u ∧ e'.w = w' ∧ Ext e e' ∧ Rep e' res u
section ev
variable {P : Program} {r : Option Nat} {H : List AObj} {ρ : Operand → AV}
variable {d : Option Tmp} {t : TypeId} {p : String} {af : Array Edge} {g : Option (Nat × Bool)} {x y : Operand}
theorem ev_callQ {as : Array Operand} {ats : Array TypeId} {f : FuncId} {first cap args : List AV} {res : AV} (he : Ent P f) (hx : Less (ρ x) (.fn (.func f) first cap))
    (hc : AQuiet P f args H res) (ha : LessL (first ++ as.toList.map ρ ++ cap) args) : Ev P r ⟨d, .call ⟨.value x, as, ats⟩, t, p, af, g⟩ H ρ res := by
  intro e a next Q' ok hH hs hn
  have hxr := hx e _ (hs x (by simp [Op.operands, Call.operands]))
  rw [Rep] at hxr
  obtain ⟨fv, cv, hfv, h1, h2⟩ := hxr
  have h3 : RepL e (as.toList.map ρ) (as.toList.map a.eval) := RepL.mapped fun y hy => hs y (by simp [Op.operands, Call.operands]; exact .inr (by simpa using hy))
  refine ⟨about_FW _ _ _ _ _, ?_⟩
  show Oper.uponIn (FW r) 0 P _ a next Q' (((Oper.semAt r a.eval ⟨d, .call ⟨.value x, as, ats⟩, t, p, af, g⟩)).run P e.w)
  rw [semAt_of (by intro c h; cases h), run_callop hfv he]
  refine ⟨fun h => by simp [FW] at h, ?_⟩
  have := hc e (fv ++ as.map a.eval ++ cv) ok hH (ha.rep (by simpa using (h1.append h3).append h2))
  refine CallsIn.mono (F := FW r) (n := 0) this ?_
  rintro x w' ⟨u, e', rfl, rfl, hxt, hu⟩
  exact hn u e' hxt hu
end ev
/-- **A box that is written no more.** -/
theorem sub_iptr {c : Ctx} {s : St} {j : Nat} {l : List AV} {sl' : List (Nat × AV)} {H' : List AObj} (hj : s.H[j]? = some (.cells l)) (hH : H' = s.H.set j .dead)
    (hsl : ∀ q ∈ sl', ∀ e e' : Env, e.Le e' → (∀ v, Rep e (.ptr j 0) v → Rep e' (.iptr l) v) → ∀ v, Rep e (sget s.sl q.1) v → Rep e' q.2 v) : Sub c s ⟨sl', H', s.df⟩ := by
  subst hH
  intro e a hs
  have hje : e.H[j]? = some (.cells l) := by rw [hs.H]; exact hj
  have hjl := lt_of_get? hje
  obtain ⟨b, cs, ct, m1, m2, m3, m4, m5⟩ := hs.ok.objs j _ hje
  have hTj : e.T j = none := by unfold Env.T; rw [hje]; rfl
  obtain ⟨e', he'⟩ : ∃ e' : Env, e' = { H := e.H.set j .dead, μ := e.μ, G := fun b' => if b' = b then cs.size else e.G b', w := e.w } := ⟨_, rfl⟩
  have hT : ∀ i, e'.T i = e.T i := fun i => by
    rw [he']; unfold Env.T; simp only
    by_cases hi : j = i
    · subst hi; rw [List.getElem?_set_self hjl, hje]; rfl
    · rw [List.getElem?_set_ne hi]
  have hne : ∀ i, i < e.H.length → i ≠ j → e.μ i ≠ some b := fun i hi hij h => hij (hs.ok.inj i j b hi hjl h m1)
  have le : e.Le e' := by
    refine ⟨by rw [he']; simp, fun i hi ht => ⟨by rw [hT]; exact ht, fun b' hb' => by rw [he']; exact hb'⟩, fun b' off ho => ?_, fun i m ht => ⟨m, by rw [hT]; exact ht, Nat.le_refl _, fun _ => ⟨by rw [he'], fun b' cs' t' hm hh => ?_⟩⟩⟩
    · by_cases h : b' = b
      · subst h; rw [m2] at ho; omega
      · rw [he']; exact ⟨by simp only [if_neg h]; exact ho, rfl⟩
    · have hi := T_lt ht
      have hij : i ≠ j := fun h => by subst h; rw [hTj] at ht; cases ht
      have hbb : b' ≠ b := fun h => by subst h; exact hne i hi hij hm
      rw [he']; exact ⟨by simp only [if_neg hbb], cs', hh, rfl⟩
  have hcells : CellsAt e' l b 0 := by
    refine CellsAt.of_values (e := e') (cs := cs) (t := ct) (fr := (0, 0)) (by rw [he']; exact m3) (RepL.mono le _ m4) m5 (fun m q hm => by simpa using hm) ?_
    rw [he', Array.length_toList]; simp
  have key : ∀ v, Rep e (.ptr j 0) v → Rep e' (.iptr l) v := by
    intro v hv
    rw [Rep] at hv
    obtain ⟨_, _, b', hb', rfl⟩ := hv
    rw [m1] at hb'; cases hb'
    rw [Rep]; exact ⟨b, 0, rfl, hcells⟩
  refine ⟨e', by rw [he'], hs.size, fun t => ?_, hs.defers.mono le, by rw [he', hs.H], ⟨fun b' hb' => ?_, fun i o ho => ?_, fun i k b' hi hk h1 h2 => ?_, fun i b' hi h1 => ?_, hs.ok.tabs.sub (by rw [he']) fun i b' hi h1 => ⟨i, by rw [he'] at hi; simpa using hi, by rw [he'] at h1; exact h1⟩⟩, ⟨by rw [he']; exact hs.fr.size, by rw [he']; exact hs.fr.still, fun b' hb' hno => ?_, fun i b' hi h1 => ?_, hs.fr.le.trans le⟩⟩
  · have hfz : ∀ (sl : List (Nat × AV)), (∀ q ∈ sl, ∀ e e' : Env, e.Le e' → (∀ v, Rep e (.ptr j 0) v → Rep e' (.iptr l) v) → ∀ v, Rep e (sget s.sl q.1) v → Rep e' q.2 v) → Rep e' (sget sl t) (a.tmps.getD t undef) := by
      intro sl
      induction sl with
      | nil => intro _; show Rep e' .any _; rw [Rep]; trivial
      | cons x sl ih =>
        intro h
        obtain ⟨u, q⟩ := x
        simp only [sget]
        cases hu : u == t with
        | true =>
          have : u = t := by simpa using hu
          subst this
          exact h (u, q) (by simp) e e' le key _ (hs.slots u)
        | false => exact ih fun y hy => h y (List.mem_cons_of_mem _ hy)
    exact hfz sl' hsl
  · rw [he'] at hb' ⊢
    have hbl := lt_of_heap m3
    have : b' ≠ b := fun h => by subst h; simp only at hb'; omega
    simp only [if_neg this]; exact hs.ok.fresh b' hb'
  · by_cases hi : j = i
    · subst hi
      rw [he'] at ho; simp only [List.getElem?_set_self hjl, Option.some.injEq] at ho; subst ho; trivial
    · have ho' : e.H[i]? = some o := by rw [he'] at ho; simpa [List.getElem?_set_ne hi] using ho
      refine ObjSim.mono le (hs.ok.objs i o ho') (by rw [he']) (fun b' hb' => ?_)
      have : b' ≠ b := fun h => by subst h; exact hne i (lt_of_get? ho') (fun h => hi h.symm) hb'
      rw [he']; exact ⟨rfl, by simp only [if_neg this]⟩
  · rw [he'] at hi hk h1 h2; exact hs.ok.inj i k b' (by simpa using hi) (by simpa using hk) h1 h2
  · rw [he'] at hi h1 ⊢; exact hs.ok.live i b' (by simpa using hi) h1
  · have h1 := hs.fr.heap b' hb' hno
    have hbb : b' ≠ b := fun h => by
      subst h
      rcases hs.fr.objs j b' hjl m1 with h2 | ⟨q, hq, h2⟩
      · omega
      · exact hno q hq h2
    rw [he']; exact ⟨h1.1, by simp only [if_neg hbb]; exact h1.2⟩
  · rw [he'] at hi h1; exact hs.fr.objs i b' (by simpa using hi) h1
end Go.Ab
namespace Go.Ab
variable [Tabs]
theorem retQ_any {P : Program} {rs : List ResultVar} {R : ARes → List AObj → Prop} {vs : List AV} {s : St} (hd : s.df = []) (hlen : Nat.ble rs.length 3 = true) (hv : ResL P s rs vs) (hR : R (.ret (resTup vs)) s.H) :
    retQ P rs R .ret s := ⟨hd, _, resAV_of (Nat.le_of_ble_eq_true hlen) hv, hR⟩
def APan (P : Program) (f : FuncId) (args : List AV) (R : ARes → Prop) : Prop := ∀ H, ACall P f args H fun x H' => H' = H ∧ R x
def ARes.pureB : ARes → Bool
  | .ret v => v.pureB
  | .pan v => v.pureB
theorem APan.of_acall {P : Program} {f : FuncId} {args : List AV} {R : ARes → Prop} (hp : AV.pureL args = true)
    (h : ACall P f args [] fun x _ => ∃ y, R y ∧ y.pureB = true ∧ (match x, y with | .ret v, .ret u => Less v u | .pan v, .pan u => Less v u | _, _ => False)) : APan P f args R := by
  intro H e vs ok hH hs
  have ok0 : EnvOK ⟨[], fun _ => none, e.G, e.w⟩ := ⟨ok.fresh, fun i o h => by simp at h, fun i j b hi => by simp at hi, fun i b hi => by simp at hi, ok.tabs.sub rfl fun i b hi => by simp at hi⟩
  refine (h ⟨[], fun _ => none, e.G, e.w⟩ vs ok0 rfl (RepL.pure (e := e) (e' := ⟨[], fun _ => none, e.G, e.w⟩) rfl rfl args hp hs)).mono ?_
  rintro x w' ⟨ax, e1, rfl, ok1, fr, ⟨y, hR, hy, hm⟩, hend⟩
  have hx : Ext e ⟨e.H, e.μ, e1.G, e1.w⟩ := ⟨rfl, fun _ _ => rfl, fr.size, fr.still, fun b hb => (fr.heap b hb (fun i hi => by simp at hi)).1, fun b hb => (fr.heap b hb (fun i hi => by simp at hi)).2, ok1.fresh⟩
  refine ⟨y, ⟨e.H, e.μ, e1.G, e1.w⟩, rfl, ok.ext hx, (Fr.refl e).ext ok hx, ⟨hH, hR⟩, ?_⟩
  cases ax with
  | ret v =>
    cases y with
    | ret u => obtain ⟨z, rfl, hz⟩ := hend; exact ⟨z, rfl, Rep.pure (e := e1) (e' := ⟨e.H, e.μ, e1.G, e1.w⟩) rfl rfl u hy (hm _ _ hz)⟩
    | pan u => exact hm.elim
  | pan v =>
    cases y with
    | ret u => exact hm.elim
    | pan u => obtain ⟨z, rfl, hz⟩ := hend; exact ⟨z, rfl, Rep.pure (e := e1) (e' := ⟨e.H, e.μ, e1.G, e1.w⟩) rfl rfl u hy (hm _ _ hz)⟩
theorem APan.pure {P : Program} {f : FuncId} {args : List AV} {R : ARes → Prop} {res : AV} (h : APan P f args R) (hp : AV.pureL args = true) (hr : res.pureB = true) (hR : ∀ x, R x → ∃ v, x = .ret v ∧ Less v res) : APure P f args res :=
  APure.of_acall hp hr fun e vs ok hH hs => (h [] e vs ok hH hs).mono fun _ _ ⟨ax, e', h1, h2, h3, ⟨_, h5⟩, h6⟩ => ⟨ax, e', h1, h2, h3, hR _ h5, h6⟩
def keysIn (l : List Int) : List Int := l.foldl (fun acc n => if n ∈ acc then acc else acc ++ [n]) []
theorem keysIn_snoc (l : List Int) (n : Int) : keysIn (l ++ [n]) = if n ∈ keysIn l then keysIn l else keysIn l ++ [n] := by
  unfold keysIn; rw [List.foldl_append]; rfl
theorem keysIn_aux : ∀ (l acc : List Int), acc.Nodup → (l.foldl (fun acc n => if n ∈ acc then acc else acc ++ [n]) acc).Nodup ∧ ∀ n, n ∈ l.foldl (fun acc n => if n ∈ acc then acc else acc ++ [n]) acc ↔ n ∈ acc ∨ n ∈ l
  | [], acc, h => ⟨h, fun n => by simp⟩
  | x :: l, acc, h => by
    simp only [List.foldl_cons]
    by_cases hx : x ∈ acc
    · rw [if_pos hx]
      obtain ⟨h1, h2⟩ := keysIn_aux l acc h
      refine ⟨h1, fun n => ?_⟩
      rw [h2, List.mem_cons]
      constructor
      · rintro (k | k)
        · exact .inl k
        · exact .inr (.inr k)
      · rintro (k | k | k)
        · exact .inl k
        · exact .inl (k ▸ hx)
        · exact .inr k
    · rw [if_neg hx]
      obtain ⟨h1, h2⟩ := keysIn_aux l (acc ++ [x]) (by
        rw [List.nodup_append]; refine ⟨h, by simp, fun a ha b hb => ?_⟩
        simp at hb; subst hb; exact fun e => hx (e ▸ ha))
      exact ⟨h1, fun n => by rw [h2]; simp [or_assoc]⟩
theorem keysIn_nodup (l : List Int) : (keysIn l).Nodup := (keysIn_aux l [] (by simp)).1
theorem mem_keysIn {l : List Int} {n : Int} : n ∈ keysIn l ↔ n ∈ l := by have := (keysIn_aux l [] (by simp)).2 n; simpa [keysIn] using this
def setM (l : List Int) : List (Int × Value) := (keysIn l).map fun k => (k, .agg #[])
theorem setM_put (l : List Int) (n : Int) : mapPut (setM l) n (.agg #[]) = setM (l ++ [n]) := by
  unfold setM; rw [mapPut_keys, keysIn_snoc]
theorem setM_nodup (l : List Int) : ((setM l).map (·.1)).Nodup := by
  have : (setM l).map (·.1) = keysIn l := by simp [setM, List.map_map, Function.comp_def]
  rw [this]; exact keysIn_nodup l
theorem setM_any (l : List Int) (n : Int) : (setM l).any (fun x => decide (x.1 = n)) = decide (n ∈ l) := by
  rw [Bool.eq_iff_iff]; simp [setM, List.any_eq_true, mem_keysIn]
theorem less_unit : Less (.agg []) (.raw (.agg #[])) := less_agg_raw (vs := []) rfl
section set
variable {P : Program} {r : Option Nat} {H : List AObj} {ρ : Operand → AV}
variable {d : Option Tmp} {t : TypeId} {p : String} {af : Array Edge} {g : Option (Nat × Bool)} {x y : Operand}
theorem ev_lookup_set {mt kt et : TypeId} {j : Nat} {l : List Int} {n : Int} (hmt : mapTy P mt = some (kt, et)) (hkt : isIntT P kt = true) (hz : zeroOf P et = some [])
    (hx : Less (ρ x) (.mp j)) (hy : Less (ρ y) (.raw (.int .i64 n))) (hj : H[j]? = some (.map (imap (setM l)))) : Ev P r ⟨d, .lookup mt x y true, t, p, af, g⟩ H ρ (.tup [.agg [], .raw (.bool (decide (n ∈ l)))]) :=
  Ev.pure (by intro c h; cases h) fun e ρc ok hE hs => by
    have hxr := hx e _ (hs x (by simp [Op.operands]))
    rw [Rep] at hxr
    obtain ⟨h1, h2, b, hb, hxv⟩ := hxr
    have hyv := rep_raw hy (hs y (by simp [Op.operands]))
    obtain ⟨b', ents, cl, hb', hh, hents⟩ := ok.objs j _ (hE j _ hj (fun n e => by cases e))
    rw [hb] at hb'; cases hb'
    have hgo : (getObj b).run P e.w = .ok (.map ents cl) e.w := by simp [getObj, Sem.run, hh]
    have hfk := run_findKey (P := P) (w := e.w) hkt (n := n) hents
    obtain ⟨z0, hz0, hzc, _⟩ := zeroOf_run hz
    have hz1 : z0 = .agg #[] := by
      have : z0.cells.toList = [] := by simpa using hzc.symm
      cases z0 <;> simp [Value.cells] at this
      rw [this]
    have hunit : Rep e (.agg []) (.agg #[]) := by rw [Rep]; exact ⟨#[], rfl, RepL.nil, by simp⟩
    rw [← setM_any]
    cases hf : (setM l).findIdx? (fun x => decide (x.1 = n)) with
    | none =>
      rw [hf] at hfk
      have hany : (setM l).any (fun x => decide (x.1 = n)) = false := by
        rw [List.findIdx?_eq_none_iff] at hf
        rw [List.any_eq_false]; intro y hy; simpa using hf y hy
      refine ⟨.tuple #[z0, .bool false], ?_, ?_⟩
      · simp [execOp, Instr.lookup, hxv, hyv, run_und (mapTy_eq hmt), hgo, run_checkKey hkt, hfk, hz0]
      · rw [hany, Rep, hz1]; exact ⟨_, rfl, RepL.cons hunit (RepL.cons (by rw [Rep]) RepL.nil)⟩
    | some q =>
      rw [hf] at hfk
      have hf' := hf
      rw [List.findIdx?_eq_some_iff_getElem] at hf
      obtain ⟨hql, hqn, _⟩ := hf
      have hany : (setM l).any (fun x => decide (x.1 = n)) = true := by
        rw [List.any_eq_true]; exact ⟨(setM l)[q], List.getElem_mem hql, hqn⟩
      have hv : ((setM l).getD q default).2 = .agg #[] := by
        rw [List.getD_eq_getElem?_getD, List.getElem?_eq_getElem hql]
        have : (setM l)[q] ∈ setM l := List.getElem_mem hql
        obtain ⟨k, _, hk⟩ := List.mem_map.1 this
        simp [← hk]
      refine ⟨.tuple #[((setM l).getD q default).2, .bool true], ?_, ?_⟩
      · simp [execOp, Instr.lookup, hxv, hyv, run_und (mapTy_eq hmt), hgo, run_checkKey hkt, hfk]
      · rw [hany, Rep, hv]; exact ⟨_, rfl, RepL.cons hunit (RepL.cons (by rw [Rep]) RepL.nil)⟩
end set
end Go.Ab
namespace Go.Ab
variable [Tabs]
theorem lookP {H0 X : List AObj} {m : Nat} {o : AObj} (h : X[m]? = some o) : (H0 ++ X)[H0.length + m]? = some o := by
  rw [List.getElem?_append_right (by omega), Nat.add_sub_cancel_left]; exact h
theorem lookL {H0 X : List AObj} {m : Nat} {o : AObj} (h : H0[m]? = some o) : (H0 ++ X)[m]? = some o := by
  rw [List.getElem?_append_left (lt_of_get? h)]; exact h
theorem setP {H0 X : List AObj} {m : Nat} {o : AObj} : (H0 ++ X).set (H0.length + m) o = H0 ++ X.set m o := by
  rw [List.set_append_right _ _ (by omega), Nat.add_sub_cancel_left]
theorem setL {H0 X : List AObj} {m : Nat} {o : AObj} (h : m < H0.length) : (H0 ++ X).set m o = H0.set m o ++ X := by
  rw [List.set_append_left _ _ h]
section seq
variable {c : Ctx} {ops : Array Oper} {Q : AExit → St → Prop} {rest : List Oper} {i : Nat} {H0 X : List AObj} {sl : List (Nat × AV)} {df : List ADef}
variable {d : Option Tmp} {t : TypeId} {p : String} {af : Array Edge}
theorem sq_allocP {bt : TypeId} {l : List AV} (hd : dOK c.nt d = true) (hz : zeroOf c.P bt = some l)
    (k : SeqWP c ops Q (i + 1) rest (St.put ⟨sl, H0 ++ (X ++ [.cells l]), df⟩ d (.ptr (H0.length + X.length) 0))) : SeqWP c ops Q i (⟨d, .alloc bt, t, p, af, none⟩ :: rest) ⟨sl, H0 ++ X, df⟩ := by
  refine sq_alloc hd hz ?_
  simp only [List.append_assoc, List.length_append]; exact k
theorem sq_boxP {bt : TypeId} {x : Operand} {a : AV} {l : List AV} (hd : dOK c.nt d = true) (hx : Less ((⟨sl, H0 ++ X, df⟩ : St).op x) a) (hl : a.cells = some l)
    (k : SeqWP c ops Q (i + 1) rest (St.put ⟨sl, H0 ++ (X ++ [.cells l]), df⟩ d (.ptr (H0.length + X.length) 0))) : SeqWP c ops Q i (⟨d, .box bt x, t, p, af, none⟩ :: rest) ⟨sl, H0 ++ X, df⟩ := by
  refine sq_box hd hx hl ?_
  simp only [List.append_assoc, List.length_append]; exact k
theorem sq_storeP {st : TypeId} {x y : Operand} {a : AV} {j off n : Nat} {bb : Bool} {l m : List AV} (hd : dOK c.nt d = true)
    (hx : Less ((⟨sl, H0 ++ X, df⟩ : St).op x) (.ptr (H0.length + j) off)) (hy : Less ((⟨sl, H0 ++ X, df⟩ : St).op y) a) (hm : a.cells = some m) (hj : X[j]? = some (.cells l)) (ht : tySz c.P st = some (bb, n)) (hn : Nat.beq m.length n = true) (hle : Nat.ble (off + n) l.length = true)
    (k : SeqWP c ops Q (i + 1) rest (St.put ⟨sl, H0 ++ X.set j (.cells (l.take off ++ m ++ l.drop (off + m.length))), df⟩ d .any)) : SeqWP c ops Q i (⟨d, .store st x y, t, p, af, none⟩ :: rest) ⟨sl, H0 ++ X, df⟩ := by
  refine sq_store hd hx hy hm (lookP hj) ht hn hle ?_
  simp only [setP]; exact k
theorem sq_storeL {st : TypeId} {x y : Operand} {a : AV} {j off n : Nat} {bb : Bool} {l m : List AV} (hd : dOK c.nt d = true)
    (hx : Less ((⟨sl, H0 ++ X, df⟩ : St).op x) (.ptr j off)) (hy : Less ((⟨sl, H0 ++ X, df⟩ : St).op y) a) (hm : a.cells = some m) (hj : H0[j]? = some (.cells l)) (ht : tySz c.P st = some (bb, n)) (hn : Nat.beq m.length n = true) (hle : Nat.ble (off + n) l.length = true)
    (k : SeqWP c ops Q (i + 1) rest (St.put ⟨sl, H0.set j (.cells (l.take off ++ m ++ l.drop (off + m.length))) ++ X, df⟩ d .any)) : SeqWP c ops Q i (⟨d, .store st x y, t, p, af, none⟩ :: rest) ⟨sl, H0 ++ X, df⟩ := by
  refine sq_store hd hx hy hm (lookL hj) ht hn hle ?_
  simp only [setL (lt_of_get? hj)]; exact k
end seq
section ev
variable {P : Program} {r : Option Nat} {H : List AObj} {ρ : Operand → AV}
variable {d : Option Tmp} {t : TypeId} {p : String} {af : Array Edge} {g : Option (Nat × Bool)} {x y : Operand}
theorem ev_nil_nil {xt yt : TypeId} (hu : P.underlying xt = some (.interface #[])) (hx : Less (ρ x) (.raw .nilIface)) (hy : Less (ρ y) (.raw .nilIface)) :
    Ev P r ⟨d, .binOp .eql xt x y yt, t, p, af, g⟩ H ρ (.raw (.bool true)) :=
  Ev.pure (by intro c h; cases h) fun e ρc ok hE hs => by
    have h1 := rep_raw hx (hs x (by simp [Op.operands]))
    have h3 := rep_raw hy (hs y (by simp [Op.operands]))
    refine ⟨.bool true, ?_, by rw [Rep]⟩
    have he : (Op.equal xt .nilIface .nilIface).run P e.w = .ok true e.w := by
      show (Op.equalIn (9999 + 1) xt .nilIface .nilIface).run P e.w = _
      rw [Op.equalIn]; simp [run_und hu]
    have hg0 : (Op.eqGuardIn Op.maxDepth xt .nilIface .nilIface).run P e.w = .ok false e.w := by
      show (Op.eqGuardIn (9999 + 1) xt .nilIface .nilIface).run P e.w = _
      rw [Op.eqGuardIn]; simp [run_und hu]
    have hg : (eqGuard .eql xt x y .nilIface .nilIface).run P e.w = .ok () e.w := by
      simp only [eqGuard]
      cases x <;> cases y <;> simp [hg0]
    have hb : (binOp .eql xt .nilIface .nilIface).run P e.w = .ok (.bool true) e.w := by
      show (do pure (.bool (← Op.equal xt .nilIface .nilIface)) : Sem Value).run P e.w = _
      simp [he]
    simp only [execOp, h1, h3]
    simp [hg, hb]
end ev
theorem sub_recell {c : Ctx} {s : St} {b : Nat} {l l' : List AV} (hb : s.H[b]? = some (.cells l)) (h : ∀ e a, Sim c s e a → ∀ vs, RepL e l vs → RepL e l' vs) : Sub c s { s with H := s.H.set b (.cells l') } := by
  intro e a hs
  have hbe : e.H[b]? = some (.cells l) := by rw [hs.H]; exact hb
  have hbl := lt_of_get? hbe
  obtain ⟨e', he'⟩ : ∃ e' : Env, e' = { e with H := e.H.set b (.cells l') } := ⟨_, rfl⟩
  have hT : ∀ i, e'.T i = e.T i := fun i => by
    rw [he']; unfold Env.T; simp only
    by_cases hi : b = i
    · subst hi; rw [List.getElem?_set_self hbl, hbe]; rfl
    · rw [List.getElem?_set_ne hi]
  have le : e.Le e' := ⟨by rw [he']; simp, fun i hi ht => ⟨by rw [hT]; exact ht, fun q hq => by rw [he']; exact hq⟩, fun q off ho => by rw [he']; exact ⟨ho, rfl⟩, fun i m ht => ⟨m, by rw [hT]; exact ht, Nat.le_refl _, fun _ => ⟨by rw [he'], fun q cs t _ hh => by rw [he']; exact ⟨rfl, cs, hh, rfl⟩⟩⟩⟩
  refine ⟨e', by rw [he'], hs.size, fun t => Rep.mono le _ (hs.slots t), hs.defers.mono le, by rw [he', hs.H], ⟨by rw [he']; exact hs.ok.fresh, fun i o ho => ?_, fun i j q hi hj => ?_, fun i q hi => ?_, hs.ok.tabs.sub (by rw [he']) fun i q hi h1 => ⟨i, by rw [he'] at hi; simpa using hi, by rw [he'] at h1; exact h1⟩⟩, ⟨by rw [he']; exact hs.fr.size, by rw [he']; exact hs.fr.still, by rw [he']; exact hs.fr.heap, fun i q hi => ?_, hs.fr.le.trans le⟩⟩
  · by_cases hi : b = i
    · subst hi
      rw [he'] at ho; simp only [List.getElem?_set_self hbl, Option.some.injEq] at ho; subst ho
      obtain ⟨q, cs, t, k1, k2, k3, k4, k5⟩ := hs.ok.objs b _ hbe
      exact ⟨q, cs, t, by rw [he']; exact k1, by rw [he']; exact k2, by rw [he']; exact k3, RepL.mono le _ (h e a hs _ k4), k5⟩
    · have ho' : e.H[i]? = some o := by rw [he'] at ho; simpa [List.getElem?_set_ne hi] using ho
      exact ObjSim.mono le (hs.ok.objs i o ho') (by rw [he']) (fun _ _ => by rw [he']; exact ⟨rfl, rfl⟩)
  · rw [he'] at hi hj ⊢; exact hs.ok.inj i j q (by simpa using hi) (by simpa using hj)
  · rw [he'] at hi ⊢; exact hs.ok.live i q (by simpa using hi)
  · rw [he'] at hi ⊢; exact hs.fr.objs i q (by simpa using hi)
theorem sub_token_box {c : Ctx} {s : St} (b sz : Nat) (hb : s.H[b]? = some (.cells [.raw (.slice none 0 0)])) : Sub c s { s with H := s.H.set b (.cells [.own s.H.length sz []]) ++ [.tok 0] } := by
  have h1 : Sub c s { s with H := s.H ++ [.tok 0] } := fun e a hs => by
    obtain ⟨e', k1, _, _, _, _, k2⟩ := sim_tok hs 0; exact ⟨e', k1, k2⟩
  have hl := lt_of_get? hb
  have h2 : Sub c { s with H := s.H ++ [.tok 0] } { s with H := (s.H ++ [AObj.tok 0]).set b (.cells [.own s.H.length sz []]) } :=
    sub_recell (s := { s with H := s.H ++ [AObj.tok 0] }) (l := [.raw (.slice none 0 0)]) (l' := [.own s.H.length sz []]) (by rw [List.getElem?_append_left hl]; exact hb) fun e a hs vs hv => by
      rw [RepL] at hv ⊢
      obtain ⟨v, rest, h1, h2, h3⟩ := hv
      refine ⟨v, rest, h1, ?_, h3⟩
      rw [Rep] at h2
      rw [Rep, h2]
      exact ⟨none, 0, 0, rfl, rfl, Nat.le_refl _, fun _ => rfl, by simp, fun ad h => (by cases h), by rw [hs.H]; simp, ⟨0, by unfold Env.T; rw [hs.H]; simp [tokOf], Nat.le_refl _⟩, fun _ ad h => (by cases h)⟩
  have h3 := h1.trans h2
  rwa [List.set_append_left _ _ hl] at h3
theorem nil_pre (H : List AObj) : H = H ++ [] := (List.append_nil H).symm
section seqg
variable {c : Ctx} {ops : Array Oper} {Q : AExit → St → Prop} {rest : List Oper} {s : St} {i : Nat}
variable {d : Option Tmp} {op : Op} {t : TypeId} {p : String} {af : Array Edge}
end seqg
theorem AQuiet.lend {P : Program} {f : FuncId} {args args' : List AV} {res : AV} {j n c sz : Nat} {es : List (List AV)} {rest : List AV} {H : List AObj}
    (hc : APure P f args res) (hr : res.flat = true) (hlend : FzL j n c sz es args' args)
    (hj : H[j]? = some (.cells (es.flatten ++ rest))) (hn : es.length = n) (hsz : ∀ q ∈ es, q.length = sz) : AQuiet P f args' H res := by
  intro e vs ok hH hargs
  have hlen := hargs.length
  have hje := pre_get hH hj
  have hjl := lt_of_get? hje
  have hsim : Sim ⟨P, none, vs.size, e⟩ ⟨slotsOf 0 args', e.H, []⟩ e { tmps := vs, defers := [] } := by
    refine ⟨rfl, fun t => ?_, DRepL.nil, rfl, ok, Fr.refl e⟩
    rw [get_slotsOf]
    simp only [Nat.zero_le, if_true, Nat.sub_zero]
    cases hat : args'[t]? with
    | none => simp only [Option.getD_none]; rw [Rep]; trivial
    | some q =>
      obtain ⟨u, k1, k2⟩ := hargs.get t q hat
      have : vs.getD t undef = u := by
        rw [Array.getD_eq_getD_getElem?]
        have : vs[t]? = some u := by simpa using k1
        rw [this]; rfl
      rw [this]; exact k2
  have hal : ∀ {l' l : List AV}, FzL j n c sz es l' l → l'.length = l.length := by
    intro l' l h; induction h with
    | nil => rfl
    | cons _ _ ih => simp [ih]
  obtain ⟨e1, hw1, hs1⟩ := sub_freeze (c := ⟨P, none, vs.size, e⟩) (s := ⟨slotsOf 0 args', e.H, []⟩) (j := j) (n := n) (cap := c) (sz := sz) (es := es) (rest := rest) (sl' := slotsOf 0 args) (H' := e.H.set j .dead) hje hn hsz (slotsOf_fz 0 hlend)
    (by
      have rst : ∀ (H : List AObj) (m : Nat), j < m → FzH j n c sz es m H H := by
        intro H
        induction H with
        | nil => exact fun m _ => FzH.nil m
        | cons o H ih => exact fun m hm => FzH.same o (by omega) (ih (m + 1) (by omega))
      have key : ∀ (H : List AObj) (m q : Nat), j = m + q → FzH j n c sz es m H (H.set q .dead) := by
        intro H
        induction H with
        | nil => exact fun m q _ => FzH.nil m
        | cons o H ih =>
          intro m q hq
          cases q with
          | zero => exact FzH.dead o (by omega) (rst H (m + 1) (by omega))
          | succ q => exact FzH.same o (by omega) (ih (m + 1) q (by omega))
      exact key e.H 0 j (by omega)) e { tmps := vs, defers := [] } hsim
  have hargs1 : RepL e1 args vs.toList := by
    have hl2 := hal hlend
    have key : ∀ (l : List AV) (k : Nat) (us : List Value), us.length = l.length → (∀ t, t < l.length → Rep e1 (sget (slotsOf k l) (k + t)) (us.getD t undef)) → RepL e1 l us := by
      intro l
      induction l with
      | nil => intro k us h _; rw [RepL]; exact List.length_eq_zero_iff.1 h
      | cons q l ih =>
        intro k us h hh
        cases us with
        | nil => simp at h
        | cons u us =>
          refine RepL.cons ?_ (ih (k + 1) us (by simpa using h) fun t ht => ?_)
          · have := hh 0 (by simp)
            simpa [slotsOf, sget] using this
          · have := hh (t + 1) (by simpa using ht)
            simp only [slotsOf, sget] at this
            have hne : (k == k + (t + 1)) = false := by simp
            rw [hne] at this
            rw [show k + 1 + t = k + (t + 1) by omega]
            simpa using this
    refine key args 0 vs.toList (by simpa using hlen.trans hl2) fun t ht => ?_
    have := hs1.slots t
    rw [Nat.zero_add]
    have e2 : vs.toList.getD t undef = vs.getD t undef := by rw [List.getD_eq_getElem?_getD, Array.getD_eq_getD_getElem?, Array.getElem?_toList]
    rw [e2]; exact this
  have := hc e1 vs hs1.ok hargs1
  rw [hw1] at this
  refine CallsIn.mono (F := FW none) (n := 0) this ?_
  rintro x w' ⟨u, e2, rfl, rfl, hxt, hu⟩
  have hsz2 : e.w.heap.size ≤ e2.w.heap.size := by have := hxt.size; rw [hw1] at this; exact this
  refine ⟨u, { H := e.H, μ := e.μ, G := fun b => if b < e.w.heap.size then e.G b else e2.G b, w := e2.w }, rfl, rfl, ⟨rfl, fun _ _ => rfl, hsz2, hw1 ▸ hxt.still, fun b hb => ?_, fun b hb => by simp [hb], fun b hb => ?_⟩, rep_flat hr hu⟩
  · have := hxt.heap b (by rw [hw1]; exact hb)
    rw [hw1] at this; exact this
  · have : ¬ b < e.w.heap.size := by simp only at hb; omega
    simp only [this, if_false]; exact hxt.fresh b hb
def ARes.inB (n : Nat) : ARes → Bool
  | .ret v => v.inB n
  | .pan v => v.inB n
theorem ACall.drop {P : Program} {f : FuncId} {args : List AV} {H H1 : List AObj} {R : ARes → Prop} (h : ACall P f args H fun x H' => (∃ X, H' = H1 ++ X) ∧ R x) (hn : H.length ≤ H1.length) (hin : objsIn H1.length H1 = true)
    (hR : ∀ x, R x → x.inB H1.length = true) : ACall P f args H fun x H' => H' = H1 ∧ R x := by
  intro e vs ok hH hs
  refine (h e vs ok hH hs).mono ?_
  rintro x w' ⟨ax, e', rfl, ok', fr, ⟨⟨X, hX⟩, hRx⟩, hend⟩
  have hcH : (e'.cut H1.length).H = H1 := by rw [cut_H, hX, List.take_left' rfl]
  refine ⟨ax, e'.cut H1.length, rfl, cut_ok ok' (by rw [← cut_H, hcH]; exact hin), fr.cut (by rw [hH]; exact hn), ⟨hcH, hRx⟩, ?_⟩
  cases ax with
  | ret v => obtain ⟨u, rfl, hu⟩ := hend; exact ⟨u, rfl, Rep.cut v (hR _ hRx) hu⟩
  | pan v => obtain ⟨u, rfl, hu⟩ := hend; exact ⟨u, rfl, Rep.cut v (hR _ hRx) hu⟩
theorem ACall.mono {P : Program} {f : FuncId} {args : List AV} {H : List AObj} {R R' : ARes → List AObj → Prop} (h : ACall P f args H R) (k : ∀ x H', R x H' → R' x H') : ACall P f args H R' :=
  fun e vs ok hH hs => (h e vs ok hH hs).mono fun _ _ ⟨ax, e', h1, h2, h3, h5, h6⟩ => ⟨ax, e', h1, h2, h3, k _ _ h5, h6⟩
end Go.Ab
namespace Go.Ab
variable [Tabs]
section
variable {P : Program} {b : Frame} {a : Act} {k : List Item} {cs : List Frame} {w : World}
theorem stepR_scope {c : Code} : step P (lone (b.atR a (.code (.scope c) :: k)) cs w) = .next (lone (b.atR a (.code c :: .inScope c :: k)) cs w) :=
  step_lone_go (by simp [stepG, stepG.exec, Frame.atR])
theorem stepR_inScope {c : Code} : step P (lone (b.atR a (.inScope c :: k)) cs w) = .next (lone (b.atR a k) cs w) :=
  step_lone_go (by simp [stepG, stepG.exec, Frame.atR])
theorem wpIn_scope {F : Fence} {n : Nat} {Q : Exit → Act → World → Prop} {c : Code} (h : c.wpIn F n P (fun x a w => (∀ l, x ≠ .goto l) ∧ Q x a w) a w) : (Code.scope c).wpIn F n P Q a w := by
  intro b k cs hro hb hr
  have h0 : (lone (b.atR a (.code (.scope c) :: k)) cs w).fenced P F := fenced_calm hb hr rfl
  obtain ⟨e, a₁, w₁, ⟨hg, hq⟩, harr⟩ := h b (.inScope c :: k) cs hro hb hr
  cases e with
  | normal => exact ⟨.normal, a₁, w₁, hq, .head h0 stepR_scope (StepsIn.trans harr (.one (fenced_calm hb hr rfl) stepR_inScope))⟩
  | exit id =>
    have hx : exitTo id (.inScope c :: k) = exitTo id k := by simp [exitTo]
    exact ⟨_, a₁, w₁, hq, fun k' hk => .head h0 stepR_scope (harr.1 k' (by rw [hx]; exact hk)),
      fun hr' hk => let ⟨k₁, h1, h2⟩ := harr.2 hr' (by rw [hx]; exact hk); ⟨k₁, h1, .head h0 stepR_scope h2⟩⟩
  | goto l => exact absurd rfl (hg l)
  | ret => exact ⟨_, a₁, w₁, hq, .of_steps (.one h0 stepR_scope) harr⟩
  | panic ch => exact ⟨_, a₁, w₁, hq, .of_steps (.one h0 stepR_scope) harr⟩
  | outgrown => exact ⟨_, a₁, w₁, hq, .of_steps (.one h0 stepR_scope) harr⟩
end
def AExit.noGoto (Q : AExit → St → Prop) : AExit → St → Prop
  | .goto _, _ => False
  | x, s => Q x s
section
variable {c : Ctx} {Q : AExit → St → Prop} {s : St}
theorem aw_scope {x : Code} (h : AWP c x (AExit.noGoto Q) s) : AWP c (.scope x) Q s := by
  intro e a hs
  refine wpIn_scope (wpIn_mono (h e a hs) ?_)
  rintro ex a' w ⟨ax, s', e', hq, rfl, hs', hx⟩
  cases ax with
  | normal => obtain rfl : ex = .normal := hx; exact ⟨fun l h => (by cases h), .normal, s', e', hq, rfl, hs', rfl⟩
  | exit j => obtain rfl : ex = .exit j := hx; exact ⟨fun l h => (by cases h), .exit j, s', e', hq, rfl, hs', rfl⟩
  | goto l => exact hq.elim
  | ret => obtain rfl : ex = .ret := hx; exact ⟨fun l h => (by cases h), .ret, s', e', hq, rfl, hs', rfl⟩
  | panic v => obtain ⟨u, rfl, hu⟩ := hx; exact ⟨fun l h => (by cases h), .panic v, s', e', hq, rfl, hs', u, rfl, hu⟩
/-- **A box that is written no more**, held in one slot. -/
theorem sub_iptrK (ks : List Nat) (t : Nat) {j : Nat} {l : List AV} (ht : sget s.sl t = .ptr j 0) (hj : s.H[j]? = some (.cells l)) : Sub c s ⟨(t, .iptr l) :: keepS s.sl ks, s.H.set j .dead, s.df⟩ := by
  refine sub_iptr hj rfl fun q hq e e' le key v hv => ?_
  rcases List.mem_cons.1 hq with rfl | hq
  · rw [ht] at hv; exact key v hv
  · unfold keepS at hq
    obtain ⟨u, _, rfl⟩ := List.mem_map.1 hq
    exact Rep.mono le _ hv
end
section
variable {P : Program} {r : Option Nat} {H : List AObj} {ρ : Operand → AV}
variable {d : Option Tmp} {t : TypeId} {p : String} {af : Array Edge} {g : Option (Nat × Bool)} {x y : Operand}
end
end Go.Ab
namespace Go.Ab
variable [Tabs]
def Env.pushT (e : Env) (o : Option Nat) : Env := { H := e.H ++ [.tok 0], μ := fun i => if i = e.H.length then o else e.μ i, G := e.G, w := e.w }
theorem pushT_T {e : Env} {o : Option Nat} {i : Nat} (hi : i < e.H.length) : (e.pushT o).T i = e.T i := by simp [Env.T, Env.pushT, List.getElem?_append_left hi]
theorem pushT_le (e : Env) (o : Option Nat) : e.Le (e.pushT o) := by
  refine ⟨by simp [Env.pushT], fun i hi ht => ⟨by rw [pushT_T hi]; exact ht, fun _ hb => by simpa [Env.pushT, Nat.ne_of_lt hi] using hb⟩, fun b off ho => ⟨ho, rfl⟩, fun i n ht => ?_⟩
  have hi := T_lt ht
  exact ⟨n, by rw [pushT_T hi]; exact ht, Nat.le_refl _, fun _ => ⟨by simp [Env.pushT, Nat.ne_of_lt hi], fun b cs t _ hh => ⟨rfl, cs, hh, rfl⟩⟩⟩
theorem pushT_ok {e : Env} (ok : EnvOK e) {o : Option Nat} (ho : ∀ b, o = some b → b < e.w.heap.size ∧ ∀ i, i < e.H.length → e.μ i ≠ some b) (ht : ∀ b, o = some b → Tabs.blk b → False) : EnvOK (e.pushT o) := by
  refine ⟨ok.fresh, fun i x hx => ?_, fun i j b hi hj h1 h2 => ?_, fun i b hi h1 => ?_, ⟨ok.tabs.1, fun b hb => ⟨(ok.tabs.2 b hb).1, fun i hi h1 => ?_⟩⟩⟩
  · rcases Nat.lt_or_ge i e.H.length with h | h
    · have hx' : e.H[i]? = some x := by simpa [Env.pushT, List.getElem?_append_left h] using hx
      exact ObjSim.mono (pushT_le e o) (ok.objs i x hx') (by simp [Env.pushT, Nat.ne_of_lt h]) (fun _ _ => ⟨rfl, rfl⟩)
    · have hi : i = e.H.length := by have := lt_of_get? hx; simp [Env.pushT] at this; omega
      subst hi
      have : x = .tok 0 := by simpa [Env.pushT] using hx.symm
      subst this; trivial
  · have hi' : i < e.H.length + 1 := by simpa [Env.pushT] using hi
    have hj' : j < e.H.length + 1 := by simpa [Env.pushT] using hj
    simp only [Env.pushT] at h1 h2
    by_cases e1 : i = e.H.length <;> by_cases e2 : j = e.H.length
    · omega
    · rw [if_pos e1] at h1; rw [if_neg e2] at h2
      exact absurd h2 ((ho b h1).2 j (by omega))
    · rw [if_neg e1] at h1; rw [if_pos e2] at h2
      exact absurd h1 ((ho b h2).2 i (by omega))
    · rw [if_neg e1] at h1; rw [if_neg e2] at h2; exact ok.inj i j b (by omega) (by omega) h1 h2
  · have hi' : i < e.H.length + 1 := by simpa [Env.pushT] using hi
    simp only [Env.pushT] at h1
    by_cases e1 : i = e.H.length
    · rw [if_pos e1] at h1; exact (ho b h1).1
    · rw [if_neg e1] at h1; exact ok.live i b (by omega) h1
  · have hi' : i < e.H.length + 1 := by simpa [Env.pushT] using hi
    simp only [Env.pushT] at h1
    by_cases e1 : i = e.H.length
    · rw [if_pos e1] at h1; exact ht b h1 hb
    · rw [if_neg e1] at h1; exact (ok.tabs.2 b hb).2 i (by omega) h1
/-- **A slice with room and without elements, out of a call, is the caller's own.** -/
theorem ACall.fresh {P : Program} {f : FuncId} {args : List AV} {H : List AObj} {sz : Nat}
    (h : ACall P f args H fun x H' => (H' = H ∧ x = .ret (.raw (.slice none 0 0))) ∨ ∃ (cap : Nat) (l : List AV), H' = H ++ [.cells l] ∧ l.length = cap * sz ∧ x = .ret (.msl H.length 0 0 cap))
    (hin : objsIn H.length H = true) : ACall P f args H fun x H' => H' = H ++ [.tok 0] ∧ x = .ret (.own H.length sz []) := by
  intro e vs ok hH hs
  refine (h e vs ok hH hs).mono ?_
  rintro x w' ⟨ax, e', rfl, ok', fr, hR, hend⟩
  rcases hR with ⟨hH', rfl⟩ | ⟨cap, l, hH', hl, rfl⟩
  · obtain ⟨u, rfl, hu⟩ := hend
    refine ⟨.ret (.own H.length sz []), e'.pushT none, rfl, pushT_ok ok' (fun b h => by cases h) (fun b h => by cases h), ⟨fr.size, fr.still, fr.heap, fun i b hi h1 => ?_, fr.le.trans (pushT_le _ _)⟩, ⟨by simp [Env.pushT, hH'], rfl⟩, u, rfl, ?_⟩
    · have hi' : i < e'.H.length + 1 := by simpa [Env.pushT] using hi
      simp only [Env.pushT] at h1
      by_cases e1 : i = e'.H.length
      · rw [if_pos e1] at h1; cases h1
      · rw [if_neg e1] at h1; exact fr.objs i b (by omega) h1
    · rw [Rep] at hu; subst hu
      rw [Rep]
      exact ⟨none, 0, 0, rfl, rfl, Nat.le_refl _, fun _ => rfl, by simp, fun ad h => (by cases h), by simp [Env.pushT, hH'], ⟨0, by simp [Env.T, Env.pushT, tokOf, hH'], Nat.le_refl _⟩, fun _ ad h => (by cases h)⟩
  · obtain ⟨u, rfl, hu⟩ := hend
    have hje : e'.H[H.length]? = some (.cells l) := by rw [hH']; simp
    obtain ⟨b, cs, ct, m1, m2, m3, m4, m5⟩ := ok'.objs _ _ hje
    have hcH : (e'.cut H.length).H = H := by rw [cut_H, hH', List.take_left' rfl]
    have okc : EnvOK (e'.cut H.length) := cut_ok ok' (by rw [← cut_H, hcH]; exact hin)
    have frc := fr.cut (n := H.length) (by rw [hH]; exact Nat.le_refl _)
    have hlen : e'.H.length = H.length + 1 := by rw [hH']; simp
    refine ⟨.ret (.own H.length sz []), (e'.cut H.length).pushT (some b), rfl, pushT_ok okc (fun b' hb' => ?_) (fun b' hb' hk => by cases hb'; exact (ok'.tabs.2 b hk).2 H.length (by omega) m1), ⟨fr.size, fr.still, fr.heap, fun i b' hi h1 => ?_, frc.le.trans (pushT_le _ _)⟩, ⟨by simp [Env.pushT, hcH], rfl⟩, u, rfl, ?_⟩
    · cases hb'
      refine ⟨lt_of_heap m3, fun i hi hb => ?_⟩
      rw [hcH] at hi
      have := ok'.inj i H.length b (by omega) (by omega) hb m1
      omega
    · have hi' : i < H.length + 1 := by simpa [Env.pushT, hcH] using hi
      simp only [Env.pushT] at h1
      rw [hcH] at h1
      by_cases e1 : i = H.length
      · rw [if_pos e1] at h1; cases h1; exact fr.objs H.length b (by omega) m1
      · rw [if_neg e1] at h1; exact fr.objs i b' (by omega) h1
    · rw [Rep] at hu
      obtain ⟨_, _, b', hb', rfl, hle⟩ := hu
      rw [m1] at hb'; cases hb'
      rw [Rep]
      refine ⟨some ⟨b, 0, none⟩, 0, cap, rfl, rfl, hle, fun h => (by cases h), by simp, fun ad h => (by cases h; exact ⟨fun _ => rfl, by rw [ElemsAt]; trivial⟩), by simp [Env.pushT, hcH], ⟨0, by simp [Env.T, Env.pushT, tokOf, hcH], Nat.le_refl _⟩, fun _ ad h hlt => ?_⟩
      cases h
      refine ⟨by simp [Env.pushT, hcH], by simpa [Env.pushT, Env.cut] using m2, cs, ct, m3, ?_⟩
      have := m4.length
      rw [Array.length_toList] at this
      simp only [Nat.zero_add]
      omega
section
variable {P : Program}
end
section seq
variable {c : Ctx} {ops : Array Oper} {Q : AExit → St → Prop} {rest : List Oper} {s : St} {i : Nat}
variable {d : Option Tmp} {t : TypeId} {p : String} {af : Array Edge}
end seq
section
variable {P : Program} {r : Option Nat} {H : List AObj} {ρ : Operand → AV}
variable {d : Option Tmp} {t : TypeId} {p : String} {af : Array Edge} {g : Option (Nat × Bool)} {x y : Operand}
end
end Go.Ab
namespace Go.Ab
variable [Tabs]
abbrev S (l : List UInt8) : AV := .raw (.string ⟨l.toArray⟩)
theorem bs_app (a b : List UInt8) : (⟨a.toArray⟩ : ByteArray) ++ ⟨b.toArray⟩ = ⟨(a ++ b).toArray⟩ := by
  exact ByteArray.mk_append_mk a b
theorem flat_single {α : Type} (f : α → AV) (l : List α) : (l.map fun n => [f n]).flatten = l.map f := by
  induction l with
  | nil => rfl
  | cons u us ih => simp [ih]
theorem bs_eq (a b : List UInt8) : decide ((⟨a.toArray⟩ : ByteArray) = ⟨b.toArray⟩) = decide (a = b) := by
  refine decide_eq_decide.2 ⟨fun h => ?_, fun h => by rw [h]⟩
  have := congrArg (fun s : ByteArray => s.data.toList) h
  simpa using this
theorem bs_size (a : List UInt8) : (⟨a.toArray⟩ : ByteArray).size = a.length := by simp [ByteArray.size]
/-- **A contract with new blocks behind the heap, at the most.** -/
theorem apure_of_calls {P : Program} {f : FuncId} {vs : List Value} {u : Value} (h : ∀ w, Tabs.is w → Calls P f vs.toArray w fun x w' => x = .returned u ∧ Still w w' ∧ ∃ os, w'.heap = w.heap ++ os) : APure P f (vs.map .raw) (.raw u) := by
  intro e us ok hs
  have hu : us = vs.toArray := Array.ext' (by simpa using repL_raws_eq hs)
  subst hu
  have h1 := (callsIn_wide (n := 0)).2 (h e.w ok.tabs.1)
  refine CallsIn.mono (F := FW none) (n := 0) h1 ?_
  rintro x w' ⟨rfl, hst, os, hw⟩
  refine ⟨u, { e with w := w' }, rfl, rfl, ⟨rfl, fun _ _ => rfl, by simp [hw], hst, fun b hb => ?_, fun _ _ => rfl, fun b hb => ok.fresh b ?_⟩, by rw [Rep]⟩
  · show w'.heap[b]? = _
    rw [hw, Array.getElem?_append_left hb]
  · have : w'.heap.size ≤ b := hb
    rw [hw, Array.size_append] at this; omega
/-- **A contract with one new row.** -/
theorem apure_of_row {P : Program} {f : FuncId} {vs us : List Value} {et : TypeId} (h1 : ∀ u ∈ us, isCell u = true)
    (h : ∀ w, Tabs.is w → Calls P f vs.toArray w fun x w' => x = .returned (.slice (some ⟨w.heap.size, 0, none⟩) us.length us.length) ∧ Still w w' ∧ w'.heap = w.heap.push (.cells us.toArray et (0, 0))) :
    APure P f (vs.map .raw) (.sl 1 (us.map fun u => [.raw u])) := by
  intro e qs ok hs
  have hu : qs = vs.toArray := Array.ext' (by simpa using repL_raws_eq hs)
  subst hu
  have hc := (callsIn_wide (n := 0)).2 (h e.w ok.tabs.1)
  refine CallsIn.mono (F := FW none) (n := 0) hc ?_
  rintro x w' ⟨rfl, hst, hw⟩
  have hcells := cells_row ok hw hst (RepL.raws us) h1 (fun j v hj => by simpa using hj)
  refine ⟨_, e.row us.length w', rfl, rfl, Env.row_ext ok hw hst, ?_⟩
  rw [Rep]
  refine ⟨_, _, _, rfl, by simp, Nat.le_refl _, fun h => (by cases h), fun c hc => by obtain ⟨u, _, rfl⟩ := List.mem_map.1 hc; rfl, fun ad had => ?_⟩
  cases had
  refine ⟨fun _ => rfl, ElemsAt.flat.2 ?_⟩
  rw [flat_single]; exact hcells
section ops
variable {P : Program} {r : Option Nat} {H : List AObj} {ρ : Operand → AV}
variable {d : Option Tmp} {t : TypeId} {p : String} {af : Array Edge} {g : Option (Nat × Bool)}
variable {x y z : Operand}
theorem ev_catS {a b : List UInt8} {xt yt : TypeId} (hx : Less (ρ x) (S a)) (hy : Less (ρ y) (S b)) (hl : a.length + b.length ≤ 9223372036854775807) :
    Ev P r ⟨d, .binOp .add xt x y yt, t, p, af, g⟩ H ρ (S (a ++ b)) := by
  have := ev_concat (P := P) (r := r) (H := H) (d := d) (t := t) (p := p) (af := af) (g := g) (xt := xt) (yt := yt) hx hy (by rw [bs_size, bs_size]; exact hl)
  rw [bs_app] at this; exact this
theorem ev_seqS {a b : List UInt8} {xt yt : TypeId} (hx : Less (ρ x) (S a)) (hy : Less (ρ y) (S b)) : Ev P r ⟨d, .binOp .eql xt x y yt, t, p, af, g⟩ H ρ (.raw (.bool (decide (a = b)))) := by
  rw [← bs_eq]; exact ev_seql hx hy
theorem ev_lenS {a : List UInt8} {xt : TypeId} (ht : P.underlying xt = some .string) (hx : Less (ρ x) (S a)) : Ev P r ⟨d, .call ⟨.builtin .len, #[x], #[xt]⟩, t, p, af, g⟩ H ρ (.raw (.int .i64 a.length)) := by
  rw [← bs_size]; exact ev_len_str ht hx
theorem ev_idxS {xt : TypeId} {s : List UInt8} {k : Nat} {ik : IntKind} {m : Int} (ht : P.underlying xt = some .string) (hx : Less (ρ x) (S s)) (hy : Less (ρ y) (.raw (.int ik m))) (hm : m = (k : Int)) (hk : k < s.length) :
    Ev P r ⟨d, .index xt x y, t, p, af, g⟩ H ρ (.raw (.int .u8 (s[k].toNat : Int))) := by
  have := ev_index_str (P := P) (r := r) (H := H) (d := d) (t := t) (p := p) (af := af) (g := g) ht hx hy hm (by rw [bs_size]; exact hk)
  exact this
theorem ev_bytesS {src dst et : TypeId} {ns : List Int} (hs1 : P.underlying src = some (.slice et)) (he : P.underlying et = some (.int .u8)) (hd1 : P.underlying dst = some .string) (hx : Less (ρ x) (.sl 1 (ns.map fun n => [.raw (.int .u8 n)]))) :
    Ev P r ⟨d, .convert src dst x, t, p, af, g⟩ H ρ (S (ns.map fun n => UInt8.ofNat n.toNat)) :=
  Ev.pure (by intro c h; cases h) fun e ρc ok hE hs => by
    have := hx e _ (hs x (by simp [Op.operands]))
    rw [Rep] at this
    obtain ⟨a, len, cap, hv, hlen, hle, hnil, hsz, hc⟩ := this
    refine ⟨.string ⟨(ns.map fun n => UInt8.ofNat n.toNat).toArray⟩, ?_, by rw [Rep]⟩
    have hstr : strOfNums ns = ⟨(ns.map fun n => UInt8.ofNat n.toNat).toArray⟩ := rfl
    cases a with
    | none =>
      have hc0 := hnil rfl
      have : ns = [] := List.length_eq_zero_iff.1 (by rw [List.length_map] at hlen; omega)
      subst this
      simp only [execOp, hv, Sem.run_bind, run_convert_bytes_nil e.w src et hs1 he len cap dst hd1]
      rfl
    | some ad =>
      obtain ⟨hsp, hel⟩ := hc ad rfl
      obtain ⟨b, off, sp⟩ := ad
      by_cases hes : ns = []
      · subst hes
        simp only [List.map_nil, List.length_nil] at hlen
        subst hlen
        simp only [execOp, hv, Sem.run_bind, run_convert_bytes_string e.w src dst et _ 0 cap hs1 he hd1]
        simp [Conv.bytesToString, loadCells, loadCellsFrom]
        try rfl
      have hsp := hsp (by have := List.length_pos_iff.2 hes; rw [List.length_map] at hlen; omega)
      simp only at hsp hel; subst hsp
      have hfl := flat_single (fun n => AV.raw (Value.int .u8 n)) ns
      have hcells := ElemsAt.flat.1 hel
      rw [hfl] at hcells
      have := run_convert_bytes_arg (P := P) e.w src et hs1 he b off len cap ns (by rw [hlen, List.length_map]) (fun i hi => by
        have hin : i < ns.length := by rw [hlen, List.length_map] at hi; exact hi
        obtain ⟨_, v, h2, h3, _⟩ := CellsAt.get i (.raw (.int .u8 ns[i])) hcells (by simp [List.getElem?_eq_getElem hin])
        rw [Rep] at h3; subst h3
        rw [h2, List.getD_eq_getElem?_getD, List.getElem?_eq_getElem hin]; rfl) dst hd1
      rw [hstr] at this
      simp only [execOp, hv, Sem.run_bind, this]
      rfl
end ops
section seq
variable {c : Ctx} {ops : Array Oper} {Q : AExit → St → Prop} {rest : List Oper} {s : St} {i : Nat}
variable {d : Option Tmp} {t : TypeId} {p : String} {af : Array Edge}
theorem sq_rangeS {x : Operand} {xt : TypeId} {b : ByteArray} (hd : dOK c.nt d = true) (ht : c.P.underlying xt = some .string) (hx : Less (s.op x) (.raw (.string b)))
    (k : SeqWP c ops Q (i + 1) rest (St.put { s with H := s.H ++ [.raw (.stringIter b 0)] } d (.ptr s.H.length 0))) : SeqWP c ops Q i (⟨d, .range xt x, t, p, af, none⟩ :: rest) s :=
  sq_run (by intro c h; cases h) hd (fun e ac hs => by
    have hv := rep_raw hx (hs.op x)
    refine ⟨.pointer (some ⟨e.w.heap.size, 0, none⟩), e.push (.raw (.stringIter b 0)) (.stringIter b 0), ?_, hs.push (push_raw hs.ok _), ?_⟩
    · simp only [execOp, hv, Sem.run_bind, run_range_string e.w xt b ht]; rfl
    · rw [Rep]
      refine ⟨by simp [Env.push, hs.H], ?_, e.w.heap.size, by simp [Env.push, hs.H], rfl⟩
      unfold Env.T; simp [Env.push, hs.H, tokOf]) k
theorem run_next_at {P : Program} {w : World} {b : Nat} {s : ByteArray} {pos : Nat} {ty : TypeId} (hh : w.heap[b]? = some (.stringIter s pos)) (h : pos < s.size) :
    (Instr.next (.pointer (some ⟨b, 0, none⟩)) true ty).run P w = .ok (.tuple #[.bool true, .int .i64 pos, .int .i32 (Utf8.decode s pos).1]) (w.putObj b (.stringIter s (pos + (Utf8.decode s pos).2))) := by
  simp only [Instr.next, getObj, setObj, Sem.run_bind, Sem.run, hh, Result.andThen, h, if_true]
  simp [goInt, World.putObj]
theorem sq_nextS {x : Operand} {ty : TypeId} {b : ByteArray} {j pos : Nat} (hd : dOK c.nt d = true) (hx : Less (s.op x) (.ptr j 0)) (hj : s.H[j]? = some (.raw (.stringIter b pos)))
    (k1 : pos < b.size → SeqWP c ops Q (i + 1) rest (St.put { s with H := s.H.set j (.raw (.stringIter b (pos + (Utf8.decode b pos).2))) } d (.tup [.raw (.bool true), .raw (.int .i64 pos), .raw (.int .i32 (Utf8.decode b pos).1)])))
    (k2 : ¬ pos < b.size → SeqWP c ops Q (i + 1) rest (St.put s d (.tup [.raw (.bool false)]))) : SeqWP c ops Q i (⟨d, .next x true, ty, p, af, none⟩ :: rest) s := by
  by_cases hlt : pos < b.size
  · refine sq_run (by intro c h; cases h) hd (fun e ac hs => ?_) (k1 hlt)
    have hv := hx e _ (hs.op x)
    rw [Rep] at hv
    obtain ⟨_, _, q, hq, hv⟩ := hv
    have hje : e.H[j]? = some (.raw (.stringIter b pos)) := by rw [hs.H]; exact hj
    obtain ⟨q', hq', hh, _⟩ := hs.ok.objs j _ hje
    rw [hq] at hq'; cases hq'
    obtain ⟨ok', fr'⟩ := setRaw_all (o := .stringIter b (pos + (Utf8.decode b pos).2)) hs.ok hje hq rfl rfl
    refine ⟨.tuple #[.bool true, .int .i64 pos, .int .i32 (Utf8.decode b pos).1], e.setRaw j q (.stringIter b (pos + (Utf8.decode b pos).2)), ?_, ⟨hs.size, fun t => Rep.mono fr'.le _ (hs.slots t), hs.defers.mono fr'.le, by simp [Env.setRaw, hs.H], ok', hs.fr.trans fr'⟩, ?_⟩
    · simp only [execOp, hv, Sem.run_bind, run_next_at hh hlt]; rfl
    · rw [Rep]; exact ⟨_, rfl, RepL.cons (by rw [Rep]) (RepL.cons (by rw [Rep]) (RepL.cons (by rw [Rep]) RepL.nil))⟩
  · refine sq_run (by intro c h; cases h) hd (fun e ac hs => ?_) (H' := s.H) (k2 hlt)
    have hv := hx e _ (hs.op x)
    rw [Rep] at hv
    obtain ⟨_, _, q, hq, hv⟩ := hv
    have hje : e.H[j]? = some (.raw (.stringIter b pos)) := by rw [hs.H]; exact hj
    obtain ⟨q', hq', hh, _⟩ := hs.ok.objs j _ hje
    rw [hq] at hq'; cases hq'
    refine ⟨.tuple #[.bool false], e, ?_, hs, ?_⟩
    · have : (Instr.next (.pointer (some ⟨q, 0, none⟩)) true ty).run c.P e.w = .ok (.tuple #[.bool false]) e.w := by
        simp [Instr.next, getObj, Sem.run, hh, hlt]
      simp only [execOp, hv, Sem.run_bind, this]; rfl
    · rw [Rep]; exact ⟨_, rfl, RepL.cons (by rw [Rep]) RepL.nil⟩
end seq
end Go.Ab
namespace Go.Ab
open Go.Lib
def cut (c : UInt8) : List UInt8 → List (List UInt8)
  | [] => [[]]
  | b :: l => if b = c then [] :: cut c l else match cut c l with
    | [] => [[b]]
    | x :: xs => (b :: x) :: xs
theorem index_eq (c : UInt8) (l : List UInt8) : index (c :: l) [c] = 0 := by
  unfold index; rw [if_pos (by simp)]
theorem index_ne {b c : UInt8} (l : List UInt8) (h : b ≠ c) : index (b :: l) [c] = if index l [c] == -1 then -1 else index l [c] + 1 := by
  rw [index]
  rw [if_neg (by simp; exact fun e => h e.symm)]
theorem split_cut (c : UInt8) : ∀ l : List UInt8, splitK [c] 0 (count l [c]) l = cut c l
  | [] => rfl
  | b :: l => by
    have ih := split_cut c l
    by_cases h : b = c
    · subst h
      rw [count_cons_eq, Nat.add_comm, cut, if_pos rfl, ← ih]
      rw [splitK, index_eq]
      rw [if_neg (by decide)]
      rfl
    · rw [count_cons_ne _ _ _ h, cut, if_neg h, ← ih]
      cases hk : count l [c] with
      | zero => rfl
      | succ k =>
        rw [splitK, splitK, index_ne l h]
        have hge := index_ge l [c]
        by_cases hi : index l [c] = -1
        · rw [hi]; rfl
        · have e1 : (index l [c] == -1) = false := by simpa using hi
          have e2 : (index l [c] + 1 == -1) = false := by simp; omega
          rw [e1]
          simp only [Bool.false_eq_true, if_false, e2]
          have e3 : (index l [c] + 1).toNat = (index l [c]).toNat + 1 := by omega
          rw [e3]
          simp only [Nat.add_zero, List.take_succ_cons, List.length_singleton]
          congr 1
theorem splitB_cut (c : UInt8) (l : List UInt8) : (splitB ⟨#[c]⟩ 0 (countB ⟨l.toArray⟩ ⟨#[c]⟩) ⟨l.toArray⟩).map (·.data.toList) = cut c l := by
  rw [splitB_data]
  have : countB ⟨l.toArray⟩ ⟨#[c]⟩ = count l [c] := by unfold countB; simp
  rw [this]
  have := split_cut c l
  simpa using this
theorem cut_len (c : UInt8) : ∀ l : List UInt8, (cut c l).length ≤ l.length + 1 ∧ 0 < (cut c l).length
  | [] => by simp [cut]
  | b :: l => by
    have := cut_len c l
    rw [cut]
    split
    · simp; omega
    · cases h : cut c l with
      | nil => rw [h] at this; simp at this
      | cons x xs => rw [h] at this; simp at this ⊢; omega
theorem cut_mem (c : UInt8) : ∀ l : List UInt8, ∀ x ∈ cut c l, x.length ≤ l.length
  | [] => by simp [cut]
  | b :: l => by
    intro x hx
    have ih := cut_mem c l
    rw [cut] at hx
    split at hx
    · rcases List.mem_cons.1 hx with rfl | hx
      · simp
      · have := ih x hx; simp; omega
    · cases h : cut c l with
      | nil => rw [h] at hx; simp at hx; subst hx; simp
      | cons y ys =>
        rw [h] at hx ih
        rcases List.mem_cons.1 hx with rfl | hx
        · have := ih y (by simp); simp; omega
        · have := ih x (by simp [hx]); simp; omega
end Go.Ab
namespace Go.Ab
variable [Tabs]
def methOf (P : Program) (t : TypeId) (name : String) : Option FuncId :=
  match P.info? t, P.underlying t with
  | some i, some (.struct _) => match i.methods.find? (·.name == name) with
    | some m => match m.path.isEmpty, m.func with
      | true, some (f, false) => some f
      | _, _ => none
    | none => none
  | _, _ => none
theorem run_method {P : Program} {t : TypeId} {name : String} {f : FuncId} (h : methOf P t name = some f) (n : Nat) (v : Value) (w : World) : (method (n + 1) t v name).run P w = .ok (f, v) w := by
  unfold methOf at h
  split at h
  · rename_i i fs hi hu
    split at h
    · rename_i m hm
      split at h
      · rename_i f' hp hf
        simp only [Option.some.injEq] at h; subst h
        have hp' : m.path = #[] := by simpa using hp
        simp [method, typeInfo, hi, hm, hp', follow, hf, receiverAt, run_und hu, Place.get]
      · cases h
    · cases h
  · cases h
section ops
variable {P : Program} {r : Option Nat} {H : List AObj} {ρ : Operand → AV}
variable {d : Option Tmp} {t : TypeId} {p : String} {af : Array Edge} {g : Option (Nat × Bool)}
theorem ev_invoke {x : Operand} {name : String} {ats : Array TypeId} {dt : TypeId} {f : FuncId} {a res : AV} (hm : methOf P dt name = some f) (he : Ent P f) (hx : Less (ρ x) (.ifc dt a)) (hc : APure P f [a] res) :
    Ev P r ⟨d, .call ⟨.invoke x name, #[], ats⟩, t, p, af, g⟩ H ρ res := by
  intro e ac next Q' ok hH hs hn
  have hxr := hx e _ (hs x (by simp [Op.operands, Call.operands]))
  rw [Rep] at hxr
  obtain ⟨u, hu, hr⟩ := hxr
  refine ⟨about_FW _ _ _ _ _, ?_⟩
  show Oper.uponIn (FW r) 0 P _ ac next Q' (((Oper.semAt r ac.eval ⟨d, .call ⟨.invoke x name, #[], ats⟩, t, p, af, g⟩)).run P e.w)
  have hrun : (execOp ac.eval ⟨d, .call ⟨.invoke x name, #[], ats⟩, t, p, af, g⟩).run P e.w = .ok (.enter f #[u]) e.w := by
    have hmr := run_method hm (P.types.size + 99) u e.w
    have e1 : P.types.size + Made.depth = (P.types.size + 99) + 1 := rfl
    simp only [execOp, resolve, hu]
    simp [invoke, callMethod, run_program, e1, hmr, he #[u] e.w]
  rw [semAt_of (by intro c h; cases h), hrun]
  refine ⟨fun h => by simp [FW] at h, ?_⟩
  have := hc e #[u] ok (RepL.cons hr RepL.nil)
  refine CallsIn.mono (F := FW r) (n := 0) this ?_
  rintro x w' ⟨u, e', rfl, rfl, hxt, hu⟩
  exact hn u e' hxt hu
end ops
theorem sub_token_slx {c : Ctx} {s : St} (u sz : Nat) {es : List (List AV)} (hu : Less (sget s.sl u) (.slx sz es)) :
    Sub c s { s with H := s.H ++ [.tok es.length], sl := (u, .own s.H.length sz es) :: s.sl } := by
  intro e a hs
  have hv := hu e _ (hs.slots u)
  obtain ⟨e', k1, k2, le, k4, k5, k6⟩ := sim_tok hs es.length
  refine ⟨e', k1, k6.size, fun t => ?_, k6.defers, k6.H, k6.ok, k6.fr⟩
  simp only [sget]
  cases hb : u == t with
  | false => exact k6.slots t
  | true =>
    have : u = t := by simpa using hb
    subst this
    have hv' := Rep.mono le _ hv
    simp only [cond_true]
    rw [Rep] at hv'
    obtain ⟨ad, len, h1, h2, h3, h4, h5⟩ := hv'
    rw [Rep]
    exact ⟨ad, len, len, h1, h2, Nat.le_refl _, h3, h4, h5, by rw [k4]; simp, ⟨es.length, by unfold Env.T; rw [k4]; simp [tokOf], Nat.le_refl _⟩, fun _ _ _ h => absurd h (Nat.lt_irrefl _)⟩
end Go.Ab
