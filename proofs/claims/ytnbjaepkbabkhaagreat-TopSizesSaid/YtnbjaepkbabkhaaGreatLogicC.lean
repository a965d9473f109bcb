/-
  A part of the proof: conditions: none beyond each theorem's own.
-/
import Derived.Test.YtnbjaepkbabkhaaGreatLogicB
import Derived.RangeFuncRecord
import Derived.RecoverIn
import Derived.Laws.StructEq
set_option linter.all false
namespace Go.Ab
variable [Tabs]
section tok
variable {c : Ctx} {ops : Array Oper} {Q : AExit → St → Prop} {rest : List Oper} {s : St} {i : Nat}
variable {d : Option Tmp} {t : TypeId} {p : String} {af : Array Edge}
theorem sim_tok {e : Env} {a : Act} (hs : Sim c s e a) (n : Nat) : ∃ e', e'.w = e.w ∧ e'.G = e.G ∧ e.Le e' ∧ e'.H = s.H ++ [.tok n] ∧ e'.μ s.H.length = none ∧ Sim c { s with H := s.H ++ [.tok n] } e' a := by
  have hlen : e.H.length = s.H.length := by rw [hs.H]
  have hT : ∀ i, i < e.H.length → Env.T { H := e.H ++ [.tok n], μ := fun i => if i = e.H.length then none else e.μ i, G := e.G, w := e.w } i = e.T i := fun i hi => by
    simp [Env.T, List.getElem?_append_left hi]
  have le : e.Le { H := e.H ++ [.tok n], μ := fun i => if i = e.H.length then none else e.μ i, G := e.G, w := e.w } := by
    refine ⟨by simp, fun i hi ht => ⟨by rw [hT i hi]; exact ht, fun _ hb => by simpa [Nat.ne_of_lt hi] using hb⟩, fun b off ho => ⟨ho, rfl⟩, fun i n ht => ?_⟩
    have hi : i < e.H.length := by
      rcases Nat.lt_or_ge i e.H.length with k | k
      · exact k
      · unfold Env.T at ht; rw [List.getElem?_eq_none k] at ht; simp [tokOf] at ht
    exact ⟨n, by rw [hT i hi]; exact ht, Nat.le_refl _, fun _ => ⟨by simp [Nat.ne_of_lt hi], fun b cs t _ hh => ⟨rfl, cs, hh, rfl⟩⟩⟩
  refine ⟨{ H := e.H ++ [.tok n], μ := fun i => if i = e.H.length then none else e.μ i, G := e.G, w := e.w }, rfl, rfl, le, by rw [hs.H], by simp [hlen], hs.size, fun t => Rep.mono le _ (hs.slots t), hs.defers.mono le, by rw [hs.H], ⟨hs.ok.fresh, fun i o ho => ?_, fun i j b hi hj h1 h2 => ?_, fun i b hi h1 => ?_, hs.ok.tabs.tok n⟩, ?_⟩
  · rcases Nat.lt_or_ge i e.H.length with h | h
    · have ho' : e.H[i]? = some o := by simpa [List.getElem?_append_left h] using ho
      exact ObjSim.mono le (hs.ok.objs i o ho') (by simp [Nat.ne_of_lt h]) (fun _ _ => ⟨rfl, rfl⟩)
    · have hi : i = e.H.length := by have := lt_of_get? ho; simp at this; omega
      subst hi
      have : o = .tok n := by simpa using ho.symm
      subst this; trivial
  · have hi' : i < e.H.length + 1 := by simpa using hi
    have hj' : j < e.H.length + 1 := by simpa using hj
    simp only at h1 h2
    by_cases e1 : i = e.H.length
    · rw [if_pos e1] at h1; cases h1
    · by_cases e2 : j = e.H.length
      · rw [if_pos e2] at h2; cases h2
      · rw [if_neg e1] at h1; rw [if_neg e2] at h2; exact hs.ok.inj i j b (by omega) (by omega) h1 h2
  · have hi' : i < e.H.length + 1 := by simpa using hi
    simp only at h1
    by_cases e1 : i = e.H.length
    · rw [if_pos e1] at h1; cases h1
    · rw [if_neg e1] at h1; exact hs.ok.live i b (by omega) h1
  · refine ⟨hs.fr.size, hs.fr.still, hs.fr.heap, fun i b hi h1 => ?_, hs.fr.le.trans le⟩
    have hi' : i < e.H.length + 1 := by simpa using hi
    simp only at h1
    by_cases e1 : i = e.H.length
    · rw [if_pos e1] at h1; cases h1
    · rw [if_neg e1] at h1; exact hs.fr.objs i b (by omega) h1
theorem sq_append' {x y : Operand} {st xt et et' : TypeId} {j sz bytes : Nat} {es xs : List (List AV)} (hd : dOK c.nt d = true)
    (hf : SlFact c.P st et sz bytes) (hk : c.P.underlying xt = some (.slice et')) (hx : s.op x = .own j sz es) (hj : s.H[j]? = some (.tok es.length)) (hy : Less (s.op y) (.sl sz xs))
    (hb : (es.length + xs.length) * bytes ≤ 140737488355328) (h63 : es.length + xs.length ≤ 9223372036854775807)
    (k : SeqWP c ops Q (i + 1) rest (St.put { s with H := s.H.set j (.tok (es ++ xs).length) } d (.own j sz (es ++ xs)))) : SeqWP c ops Q i (⟨d, .call ⟨.builtin .append, #[x, y], #[st, xt]⟩, t, p, af, none⟩ :: rest) s := by
  rcases Nat.eq_zero_or_pos xs.length with h0 | hpos
  · have : xs = [] := List.length_eq_zero_iff.1 h0
    subst this
    refine sq_op fun e ac hs next hn' => ?_
    have hu := hs.op x
    rw [hx] at hu
    have hv := hy e _ (hs.op y)
    have hu' := hu
    rw [Rep] at hu'
    obtain ⟨a, len, cap, hv1, hlen, hle, _⟩ := hu'
    subst hlen
    refine ⟨about_FW _ _ _ _ _, ?_⟩
    show Oper.uponIn (FW c.r) 0 c.P _ ac next (lift c Q) (((Oper.semAt c.r ac.eval ⟨d, .call ⟨.builtin .append, #[x, y], #[st, xt]⟩, t, p, af, none⟩)).run c.P e.w)
    rw [semAt_of (by intro c h; cases h)]
    have hex : (execOp ac.eval ⟨d, .call ⟨.builtin .append, #[x, y], #[st, xt]⟩, t, p, af, none⟩).run c.P e.w = ((Builtin.append_ #[st, xt] t #[.slice a es.length cap, ac.eval y]).run c.P e.w).andThen fun v w'' => .ok (.value v) w'' := by
      simp [execOp, resolve, invoke, builtin, hv1]
    rw [hex, run_append_nothing' hf hk hv hle]
    have hset : s.H.set j (.tok (es ++ ([] : List (List AV))).length) = s.H := by
      apply List.ext_getElem?
      intro n
      by_cases h : j = n
      · subst h; rw [List.getElem?_set_self (lt_of_get? hj), hj]; simp
      · rw [List.getElem?_set_ne h]
    rw [hset, List.append_nil] at k
    exact hn' _ e _ k (Sim.put (s := { s with H := s.H }) hs hd (by rw [← hv1]; exact hu))
  · exact sq_append hd hf hk hx hj hy hpos hb h63 k
end tok
section eff
variable {c : Ctx} {Q : AExit → St → Prop} {H : List AObj} {df : List ADef} {ρ : Operand → AV} {d : Option Tmp} {t : TypeId} {p : String} {af : Array Edge}
theorem eff_store {st : TypeId} {x y : Operand} {a : AV} {j off n : Nat} {bb : Bool} {l m : List AV} (hd : dOK c.nt d = true)
    (hx : Less (ρ x) (.ptr j off)) (hy : Less (ρ y) a) (hm : a.cells = some m) (hj : H[j]? = some (.cells l)) (ht : tySz c.P st = some (bb, n)) (hn : Nat.beq m.length n = true) (hle : Nat.ble (off + n) l.length = true) :
    Eff c Q ⟨d, .store st x y, t, p, af, none⟩ H df ρ .any (H.set j (.cells (l.take off ++ m ++ l.drop (off + m.length)))) :=
  eff_of rfl fun s hH hop Q k => by
    subst hH
    exact sq_store hd (by rw [hop x (by simp [Op.operands])]; exact hx) (by rw [hop y (by simp [Op.operands])]; exact hy) hm hj ht hn hle k
end eff
def ResL (P : Program) (s : St) : List ResultVar → List AV → Prop
  | [], [] => True
  | x :: l, v :: vs => resVar P s x = some v ∧ ResL P s l vs
  | _, _ => False
theorem resVar_cell {P : Program} {s : St} {ad i off n : Nat} {t : TypeId} {l : List AV} (h1 : sget s.sl ad = .ptr i off) (h2 : s.H[i]? = some (.cells l)) (h3 : tySz P t = some (true, n)) (h4 : Nat.ble (off + n) l.length = true) :
    resVar P s (.cell ad t) = some (.agg ((l.drop off).take n)) := by
  unfold resVar
  simp only [h1, h2, h3]
  rw [if_pos (Nat.le_of_ble_eq_true h4)]
theorem resVar_cell1 {P : Program} {s : St} {ad i off n : Nat} {t : TypeId} {l : List AV} {v : AV} (h1 : sget s.sl ad = .ptr i off) (h2 : s.H[i]? = some (.cells l)) (h3 : tySz P t = some (false, n)) (h4 : l[off]? = some v) :
    resVar P s (.cell ad t) = some v := by
  unfold resVar
  simp only [h1, h2, h3, h4]
def resTup : List AV → AV
  | [v] => v
  | l => .tup l
@[simp] theorem resTup_one (v : AV) : resTup [v] = v := rfl
@[simp] theorem resTup_two (v u : AV) : resTup [v, u] = .tup [v, u] := rfl
@[simp] theorem resTup_three (v u w : AV) : resTup [v, u, w] = .tup [v, u, w] := rfl
theorem resAV_of {P : Program} {s : St} : ∀ {l : List ResultVar} {vs : List AV}, l.length ≤ 3 → ResL P s l vs → resAV P s l = some (resTup vs)
  | [], [], _, _ => rfl
  | [_], [_], _, h => h.1
  | [_, _], [_, _], _, h => by simp only [resAV, h.1, h.2.1]; rfl
  | [_, _, _], [_, _, _], _, h => by simp only [resAV, h.1, h.2.1, h.2.2.1]; rfl
  | _ :: _ :: _ :: _ :: _, _, hl, _ => by simp at hl
  | [], _ :: _, _, h => h.elim
  | [_], [], _, h => h.elim
  | [_], _ :: _ :: _, _, h => h.2.elim
  | [_, _], [], _, h => h.elim
  | [_, _], [_], _, h => h.2.elim
  | [_, _], _ :: _ :: _ :: _, _, h => h.2.2.elim
  | [_, _, _], [], _, h => h.elim
  | [_, _, _], [_], _, h => h.2.elim
  | [_, _, _], [_, _], _, h => h.2.2.elim
  | [_, _, _], _ :: _ :: _ :: _ :: _, _, h => h.2.2.2.elim
theorem retQ_res {P : Program} {rs : List ResultVar} {res : AV} {vs : List AV} {s : St} (hd : s.df = []) (hlen : Nat.ble rs.length 3 = true) (hv : ResL P s rs vs) (hl : Less (resTup vs) res) :
    retQ P rs (fun x _ => ∃ v, x = .ret v ∧ Less v res) .ret s := retQ_pure hd (resAV_of (Nat.le_of_ble_eq_true hlen) hv) hl
def maskH (ks : List Nat) : Nat → List AObj → List AObj
  | _, [] => []
  | i, o :: H => (bif ks.any (Nat.beq i) then .tok 0 else o) :: maskH ks (i + 1) H
inductive HL : List AObj → List AObj → Prop
  | nil (b : List AObj) : HL [] b
  | same {a b : List AObj} (o : AObj) : HL a b → HL (o :: a) (o :: b)
  | tok {a b : List AObj} (n : Nat) (o : AObj) : HL a b → HL (.tok n :: a) (o :: b)
theorem HL.sub {a b : List AObj} (h : HL a b) : HSub a b := by
  induction h with
  | nil b => intro i o h; simp at h
  | same o _ ih =>
    intro i o' h hn
    cases i with
    | zero => simpa using h
    | succ i => simp at h ⊢; exact ih i o' h hn
  | tok n o _ ih =>
    intro i o' h hn
    cases i with
    | zero => simp at h; exact absurd h.symm (hn n)
    | succ i => simp at h ⊢; exact ih i o' h hn
theorem HSub.mask (ks : List Nat) : ∀ (i : Nat) (H : List AObj), HSub (maskH ks i H) H := by
  intro i H
  refine HL.sub ?_
  induction H generalizing i with
  | nil => exact .nil _
  | cons o H ih =>
    unfold maskH
    cases ks.any (Nat.beq i)
    · exact .same o (ih _)
    · exact .tok 0 o (ih _)
end Go.Ab
namespace Go.Ab
variable [Tabs]
section seq
variable {c : Ctx} {ops : Array Oper} {Q : AExit → St → Prop} {rest : List Oper} {s : St} {i : Nat}
variable {d : Option Tmp} {t : TypeId} {p : String} {af : Array Edge}
theorem sq_append_msl {x y : Operand} {st xt et et' : TypeId} {sz bytes : Nat} {xs : List (List AV)} (hd : dOK c.nt d = true)
    (hf : SlFact c.P st et sz bytes) (hk : c.P.underlying xt = some (.slice et')) (hx : Less (s.op x) (.slx sz [])) (hy : Less (s.op y) (.sl sz xs)) (hpos : 0 < xs.length)
    (hb : xs.length * bytes ≤ 140737488355328) (h63 : xs.length ≤ 9223372036854775807)
    (k : ∀ cap, xs.length ≤ cap → SeqWP c ops Q (i + 1) rest (St.put { s with H := s.H ++ [.cells (xs.flatten ++ List.replicate ((cap - xs.length) * sz) .any)] } d (.msl s.H.length 0 xs.length cap))) :
    SeqWP c ops Q i (⟨d, .call ⟨.builtin .append, #[x, y], #[st, xt]⟩, t, p, af, none⟩ :: rest) s := by
  refine sq_op fun e ac hs next hn' => ?_
  have hu := hx e _ (hs.op x)
  have hv := hy e _ (hs.op y)
  have hu' := hu
  rw [Rep] at hu'
  obtain ⟨a, len, hv1, hlen, hnil, hsz, hc⟩ := hu'
  obtain ⟨olds, ho1, ho2, ho3, _⟩ := slx_read (P := c.P) (cap := len) hlen hnil hsz hc
  have hol : olds = [] := by simpa [RepL] using ho1
  subst hol
  simp only [List.length_nil] at hlen
  subst hlen
  obtain ⟨ti, z, k1, k2, rfl, rfl, k5, k6, k7⟩ := hf.ex
  obtain ⟨news, hsrc, hnw⟩ := src_of hk hv
  have hcap := nextslicecap_le (show 0 < 0 + xs.length by omega)
  have hrun := run_append_grow_src (P := c.P) e.w st xt t et ti z k1 k2 k5 a 0 0 [] ho3 (ac.eval y) xs.length news hsrc (by omega) (by omega) (by
    have := Nat.mul_le_mul_right ti.bytes hcap
    have h2 : 2 * (0 + xs.length) * ti.bytes = 2 * (xs.length * ti.bytes) := by rw [Nat.zero_add, Nat.mul_assoc]
    omega)
  have hle := grownCap_le e.w (0 + xs.length) 0 et
  generalize grownCap e.w (0 + xs.length) 0 et = cap at hrun hle
  have hnl : news.length = xs.length * ti.size := hsrc.newsLen
  have hs1 := hs.ext (EnvOK.drew hs.ok)
  have hnw1 : RepL { e with w := { e.w with drawn := e.w.drawn + 1 } } xs.flatten news := RepL.mono ((EnvOK.drew hs.ok).le hs.ok) _ hnw
  have hzl : (Builtin.zeroCells z.cells (cap - (0 + xs.length))).toList.length = (cap - xs.length) * ti.size := by
    simp only [Builtin.zeroCells, Array.toList_map, Array.toList_range, List.length_map, List.length_range, k7, Nat.zero_add]
  have hrl : RepL { e with w := { e.w with drawn := e.w.drawn + 1 } } (xs.flatten ++ List.replicate ((cap - xs.length) * ti.size) .any) ((([] ++ news).toArray ++ Builtin.zeroCells z.cells (cap - (0 + xs.length)))).toList := by
    rw [Array.toList_append]
    refine RepL.append (by simpa using hnw1) ?_
    rw [← hzl]; exact RepL.anys _
  have hcell : ∀ q ∈ ((([] ++ news).toArray ++ Builtin.zeroCells z.cells (cap - (0 + xs.length)))).toList, isCell q = true := by
    intro q hq
    rw [Array.toList_append] at hq
    rcases List.mem_append.1 hq with h | h
    · exact hsrc.one q (by simpa using h)
    · exact zeroCells_cell k6 _ q h
  have hs2 := hs1.push (push_cells (t := et) hs1.ok hrl hcell)
  refine ⟨about_FW _ _ _ _ _, ?_⟩
  show Oper.uponIn (FW c.r) 0 c.P _ ac next (lift c Q) (((Oper.semAt c.r ac.eval ⟨d, .call ⟨.builtin .append, #[x, y], #[st, xt]⟩, t, p, af, none⟩)).run c.P e.w)
  rw [semAt_of (by intro c h; cases h)]
  have hex : (execOp ac.eval ⟨d, .call ⟨.builtin .append, #[x, y], #[st, xt]⟩, t, p, af, none⟩).run c.P e.w = ((Builtin.append_ #[st, xt] t #[.slice a 0 0, ac.eval y]).run c.P e.w).andThen fun v w'' => .ok (.value v) w'' := by
    simp [execOp, resolve, invoke, builtin, hv1]
  rw [hex, hrun]
  refine hn' _ _ _ (k cap (by omega)) (hs2.put hd ?_)
  rw [Rep]
  refine ⟨?_, ?_, e.w.heap.size, ?_, by simp, by omega⟩
  · simp [Env.push, hs.H]
  · simp [Env.T, Env.push, hs.H, tokOf]
  · simp [Env.push, hs.H]
def Fz (j n cap sz : Nat) (es : List (List AV)) (a a' : AV) : Prop := ∀ e e' : Env, e.Le e' → (∀ v, Rep e (.msl j 0 n cap) v → Rep e' (.sl sz es) v) → ∀ v, Rep e a v → Rep e' a' v
theorem Fz.same {j n cap sz : Nat} {es : List (List AV)} (a : AV) : Fz j n cap sz es a a := fun _ _ le _ _ h => Rep.mono le a h
theorem Fz.frozen {j n cap sz : Nat} {es : List (List AV)} : Fz j n cap sz es (.msl j 0 n cap) (.sl sz es) := fun _ _ _ k v h => k v h
inductive FzL (j n cap sz : Nat) (es : List (List AV)) : List AV → List AV → Prop
  | nil : FzL j n cap sz es [] []
  | cons {a a' : AV} {l l' : List AV} : Fz j n cap sz es a a' → FzL j n cap sz es l l' → FzL j n cap sz es (a :: l) (a' :: l')
theorem FzL.rep {j n cap sz : Nat} {es : List (List AV)} {l l' : List AV} (h : FzL j n cap sz es l l') {e e' : Env} (le : e.Le e') (k : ∀ v, Rep e (.msl j 0 n cap) v → Rep e' (.sl sz es) v) : ∀ {vs : List Value}, RepL e l vs → RepL e' l' vs := by
  induction h with
  | nil => intro vs hv; rw [RepL] at hv ⊢; exact hv
  | cons h1 _ ih =>
    intro vs hv
    rw [RepL] at hv ⊢
    obtain ⟨v, rest, rfl, h2, h3⟩ := hv
    exact ⟨v, rest, rfl, h1 e e' le k v h2, ih h3⟩
theorem Fz.agg {j n cap sz : Nat} {es : List (List AV)} {l l' : List AV} (h : FzL j n cap sz es l l') : Fz j n cap sz es (.agg l) (.agg l') := fun e e' le k v hv => by
  rw [Rep] at hv ⊢
  obtain ⟨cs, h1, h2, h3⟩ := hv
  exact ⟨cs, h1, h.rep le k h2, h3⟩
inductive FzH (j n cap sz : Nat) (es : List (List AV)) : Nat → List AObj → List AObj → Prop
  | nil (m : Nat) : FzH j n cap sz es m [] []
  | same {m : Nat} {H H' : List AObj} (o : AObj) : m ≠ j → FzH j n cap sz es (m + 1) H H' → FzH j n cap sz es m (o :: H) (o :: H')
  | cells {m : Nat} {H H' : List AObj} {l l' : List AV} : m ≠ j → FzL j n cap sz es l l' → FzH j n cap sz es (m + 1) H H' → FzH j n cap sz es m (.cells l :: H) (.cells l' :: H')
  | dead {m : Nat} {H H' : List AObj} (o : AObj) : m = j → FzH j n cap sz es (m + 1) H H' → FzH j n cap sz es m (o :: H) (.dead :: H')
theorem FzH.get {j n cap sz : Nat} {es : List (List AV)} {m : Nat} {H H' : List AObj} (h : FzH j n cap sz es m H H') : H'.length = H.length ∧ ∀ q o', H'[q]? = some o' →
    ∃ o, H[q]? = some o ∧ ((m + q = j ∧ o' = .dead) ∨ (m + q ≠ j ∧ (o' = o ∨ ∃ l l', o = .cells l ∧ o' = .cells l' ∧ FzL j n cap sz es l l'))) := by
  induction h with
  | nil m => exact ⟨rfl, fun q o' h => by simp at h⟩
  | @same m H H' o hm _ ih =>
    refine ⟨by simp [ih.1], fun q o' h => ?_⟩
    cases q with
    | zero => simp at h; subst h; exact ⟨_, rfl, .inr ⟨by simpa using hm, .inl rfl⟩⟩
    | succ q =>
      obtain ⟨o2, h1, h2⟩ := ih.2 q o' (by simpa using h)
      exact ⟨o2, by simpa using h1, by rwa [show m + (q + 1) = m + 1 + q by omega]⟩
  | @cells m H H' l l' hm hl _ ih =>
    refine ⟨by simp [ih.1], fun q o' h => ?_⟩
    cases q with
    | zero => simp at h; subst h; exact ⟨_, rfl, .inr ⟨by simpa using hm, .inr ⟨l, l', rfl, rfl, hl⟩⟩⟩
    | succ q =>
      obtain ⟨o2, h1, h2⟩ := ih.2 q o' (by simpa using h)
      exact ⟨o2, by simpa using h1, by rwa [show m + (q + 1) = m + 1 + q by omega]⟩
  | @dead m H H' o hm _ ih =>
    refine ⟨by simp [ih.1], fun q o' h => ?_⟩
    cases q with
    | zero => simp at h; subst h; exact ⟨_, rfl, .inl ⟨by simpa using hm, rfl⟩⟩
    | succ q =>
      obtain ⟨o2, h1, h2⟩ := ih.2 q o' (by simpa using h)
      exact ⟨o2, by simpa using h1, by rwa [show m + (q + 1) = m + 1 + q by omega]⟩
/-- **Freezing**: what was written into is written into no more. -/
theorem sub_freeze {j n cap sz : Nat} {es : List (List AV)} {rest : List AV} {sl' : List (Nat × AV)} {H' : List AObj} (hj : s.H[j]? = some (.cells (es.flatten ++ rest))) (hn : es.length = n) (hsz : ∀ q ∈ es, q.length = sz)
    (hsl : ∀ q ∈ sl', Fz j n cap sz es (sget s.sl q.1) q.2) (hH : FzH j n cap sz es 0 s.H H') : Sub c s ⟨sl', H', s.df⟩ := by
  intro e a hs
  have hje : e.H[j]? = some (.cells (es.flatten ++ rest)) := by rw [hs.H]; exact hj
  have hjl := lt_of_get? hje
  obtain ⟨b, cs, ct, m1, m2, m3, m4, m5⟩ := hs.ok.objs j _ hje
  have hbl := lt_of_heap m3
  obtain ⟨hlen, hget⟩ := hH.get
  obtain ⟨e', he'⟩ : ∃ e' : Env, e' = { H := H', μ := e.μ, G := fun b' => if b' = b then cs.size else e.G b', w := e.w } := ⟨_, rfl⟩
  have hTj : e.T j = none := by unfold Env.T; rw [hje]; rfl
  have hT : ∀ q, e'.T q = e.T q := fun q => by
    rw [he']
    unfold Env.T
    show tokOf (H'[q]?) = tokOf (e.H[q]?)
    rw [hs.H]
    cases hq : H'[q]? with
    | none =>
      have : H'.length ≤ q := by rwa [List.getElem?_eq_none_iff] at hq
      rw [List.getElem?_eq_none (by omega)]
    | some o' =>
      obtain ⟨o, h1, h2⟩ := hget q o' hq
      rw [h1]
      rcases h2 with ⟨h2, rfl⟩ | ⟨_, rfl | ⟨l, l', rfl, rfl, _⟩⟩
      · have : q = j := by omega
        subst this; rw [hj] at h1; cases h1; rfl
      · rfl
      · rfl
  have hne : ∀ q, q < e.H.length → q ≠ j → e.μ q ≠ some b := fun q hq hqj hm => hqj (hs.ok.inj q j b hq hjl hm m1)
  have le : e.Le e' := by
    refine ⟨by rw [he', hs.H]; show s.H.length ≤ H'.length; omega, fun q hq ht => ⟨by rw [hT]; exact ht, fun b' hb' => by rw [he']; exact hb'⟩, fun b' off ho => ?_, fun q m ht => ⟨m, by rw [hT]; exact ht, Nat.le_refl _, fun _ => ⟨by rw [he'], fun b' cs' t' hm hh => ?_⟩⟩⟩
    · by_cases h : b' = b
      · subst h; rw [m2] at ho; omega
      · rw [he']; exact ⟨by simp only [if_neg h]; exact ho, rfl⟩
    · have hq : q < e.H.length := by
        rcases Nat.lt_or_ge q e.H.length with k | k
        · exact k
        · unfold Env.T at ht; rw [List.getElem?_eq_none k] at ht; simp [tokOf] at ht
      have hqj : q ≠ j := fun h => by subst h; rw [hTj] at ht; cases ht
      have hbb : b' ≠ b := fun h => by subst h; exact hne q hq hqj hm
      rw [he']
      exact ⟨by simp only [if_neg hbb], cs', hh, rfl⟩
  have key : ∀ v, Rep e (.msl j 0 n cap) v → Rep e' (.sl sz es) v := by
    intro v hv
    rw [Rep] at hv
    rw [Rep]
    obtain ⟨_, _, b', hb', rfl, hle⟩ := hv
    rw [m1] at hb'; cases hb'
    refine ⟨_, _, _, rfl, hn.symm, hle, (fun h => by cases h), hsz, fun ad had => ?_⟩
    simp only [Option.some.injEq] at had; subst had
    refine ⟨fun _ => rfl, ElemsAt.flat.2 ?_⟩
    have hall : RepL e' (es.flatten ++ rest) cs.toList := RepL.mono le _ m4
    have htk : RepL e' es.flatten (cs.toList.take es.flatten.length) := by
      have := hall.take es.flatten.length
      rwa [List.take_left'] at this; rfl
    have hl2 := m4.length
    simp only [List.length_append] at hl2
    refine CellsAt.of_values (e := e') (cs := cs) (t := ct) (fr := (0, 0)) (by rw [he']; exact m3) htk (fun q hq => m5 q (List.mem_of_mem_take hq)) (fun m q hm' => ?_) ?_
    · have hml := lt_of_get? hm'
      rw [List.getElem?_take_of_lt (by rw [List.length_take] at hml; omega)] at hm'
      simpa using hm'
    · rw [he', List.length_take]; simp only [if_true]; rw [← Array.length_toList]; omega
  refine ⟨e', by rw [he'], hs.size, fun t => ?_, hs.defers.mono le, by rw [he'], ⟨fun b' hb' => ?_, fun q o' ho => ?_, fun q r b' hq hr h1 h2 => ?_, fun q b' hq h1 => ?_, hs.ok.tabs.sub (by rw [he']) fun q b' hq h1 => ⟨q, by rw [he'] at hq; have hq' : q < H'.length := hq; rw [hs.H]; omega, by rw [he'] at h1; exact h1⟩⟩, ⟨by rw [he']; exact hs.fr.size, by rw [he']; exact hs.fr.still, fun b' hb' hno => ?_, fun q b' hq h1 => ?_, hs.fr.le.trans le⟩⟩
  · have hfz : ∀ (sl : List (Nat × AV)), (∀ q ∈ sl, Fz j n cap sz es (sget s.sl q.1) q.2) → Rep e' (sget sl t) (a.tmps.getD t undef) := by
      intro sl
      induction sl with
      | nil => intro _; show Rep e' .any _; rw [Rep]; trivial
      | cons x sl ih =>
        intro h
        obtain ⟨u, av⟩ := x
        simp only [sget]
        cases hb : u == t with
        | true =>
          have : u = t := by simpa using hb
          subst this
          exact h (u, av) (by simp) e e' le key _ (hs.slots u)
        | false => exact ih (fun q hq => h q (List.mem_cons_of_mem _ hq))
    exact hfz sl' hsl
  · rw [he'] at hb' ⊢
    have : b' ≠ b := fun h => by subst h; exact Nat.lt_irrefl _ (Nat.lt_of_lt_of_le hbl hb')
    simp only [if_neg this]; exact hs.ok.fresh b' hb'
  · have ho' : H'[q]? = some o' := by rw [he'] at ho; exact ho
    obtain ⟨o, h1, h2⟩ := hget q o' ho'
    rcases h2 with ⟨_, rfl⟩ | ⟨hqj, h2⟩
    · trivial
    · have hqj : q ≠ j := by omega
      have hoe : e.H[q]? = some o := by rw [hs.H]; exact h1
      have hkeep : ∀ b', e.μ q = some b' → e'.w.heap[b']? = e.w.heap[b']? ∧ e'.G b' = e.G b' := fun b' hb' => by
        have : b' ≠ b := fun h => by subst h; exact hne q (lt_of_get? hoe) hqj hb'
        rw [he']; exact ⟨rfl, by simp only [if_neg this]⟩
      rcases h2 with rfl | ⟨l, l', rfl, rfl, hl⟩
      · exact ObjSim.mono le (hs.ok.objs q _ hoe) (by rw [he']) hkeep
      · obtain ⟨b2, cs2, t2, g1, g2, g3, g4, g5⟩ := hs.ok.objs q _ hoe
        obtain ⟨w1, w2⟩ := hkeep b2 g1
        exact ⟨b2, cs2, t2, by rw [he']; exact g1, w2.trans g2, w1.trans g3, hl.rep le key g4, g5⟩
  · rw [he'] at hq hr h1 h2
    have hq' : q < H'.length := hq
    have hr' : r < H'.length := hr
    exact hs.ok.inj q r b' (by rw [hs.H]; omega) (by rw [hs.H]; omega) h1 h2
  · rw [he'] at hq h1 ⊢
    have hq' : q < H'.length := hq
    exact hs.ok.live q b' (by rw [hs.H]; omega) h1
  · obtain ⟨h1, h2⟩ := hs.fr.heap b' hb' hno
    have : b' ≠ b := fun h => by
      subst h
      rcases hs.fr.objs j b' hjl m1 with h | ⟨q, hq, hm⟩
      · omega
      · exact hno q hq hm
    rw [he']; exact ⟨h1, by simp only [if_neg this]; exact h2⟩
  · rw [he'] at hq h1
    have hq' : q < H'.length := hq
    exact hs.fr.objs q b' (by rw [hs.H]; omega) h1
end seq
end Go.Ab
namespace Go.Ab
variable [Tabs]
theorem cut_H (e : Env) (n : Nat) : (e.cut n).H = e.H.take n := rfl
theorem cut_ok {e : Env} {n : Nat} (ok : EnvOK e) (hb : objsIn n (e.H.take n) = true) : EnvOK (e.cut n) := by
  have hlt : ∀ i, i < (e.cut n).H.length → i < e.H.length := fun i hi => by rw [cut_H, List.length_take] at hi; omega
  refine ⟨ok.fresh, fun i o ho => ?_, fun i j b hi hj => ok.inj i j b (hlt i hi) (hlt j hj), fun i b hi => ok.live i b (hlt i hi), ok.tabs.sub rfl fun i b hi h => ⟨i, hlt i hi, h⟩⟩
  have hi := lt_of_get? ho
  rw [cut_H, List.length_take] at hi
  have ho' : e.H[i]? = some o := by rw [cut_H, List.getElem?_take_of_lt (by omega)] at ho; exact ho
  have hk := ok.objs i o ho'
  cases o with
  | cells l =>
    obtain ⟨b, cs, t, k1, k2, k3, k4, k5⟩ := hk
    exact ⟨b, cs, t, k1, k2, k3, RepL.cut l (objsIn_get (o := .cells l) hb (i := i) (by rw [cut_H] at ho; exact ho)) k4, k5⟩
  | tok m => trivial
  | map es => exact hk
  | tcells t l =>
    obtain ⟨b, cs, k1, k2, k3, k4, k5⟩ := hk
    exact ⟨b, cs, k1, k2, k3, RepL.cut l (objsIn_get (o := .tcells t l) hb (i := i) (by rw [cut_H] at ho; exact ho)) k4, k5⟩
  | pre l =>
    obtain ⟨b, cs, t, m, k1, k2, k3, k4, k5⟩ := hk
    exact ⟨b, cs, t, m, k1, k2, k3, RepL.cut _ (inL_pad (objsIn_get (o := .pre l) hb (i := i) (by rw [cut_H] at ho; exact ho))) k4, k5⟩
  | raw ob => exact hk
  | dead => trivial
def Env.glue (E eb : Env) (n : Nat) : Env := { H := eb.H ++ E.H.drop n, μ := fun i => if i < n then eb.μ i else E.μ i, G := eb.G, w := eb.w }
theorem T_lt {e : Env} {i m : Nat} (h : e.T i = some m) : i < e.H.length := by
  rcases Nat.lt_or_ge i e.H.length with k | k
  · exact k
  · unfold Env.T at h; rw [List.getElem?_eq_none k] at h; simp [tokOf] at h
theorem glue_all {E eb : Env} {n : Nat} (ok : EnvOK E) (hn : n ≤ E.H.length) (okb : EnvOK eb) (fr : Fr (E.cut n) eb) (hl : eb.H.length = n) : EnvOK (E.glue eb n) ∧ Fr E (E.glue eb n) ∧ eb.Le (E.glue eb n) := by
  have hlen : (E.glue eb n).H.length = E.H.length := by simp [Env.glue, hl]; omega
  have hcl : (E.cut n).H.length = n := by rw [cut_H, List.length_take]; omega
  have hT1 : ∀ i, i < n → (E.glue eb n).T i = eb.T i := fun i hi => by
    unfold Env.T Env.glue; simp only; rw [List.getElem?_append_left (by omega)]
  have hT2 : ∀ i, n ≤ i → (E.glue eb n).T i = E.T i := fun i hi => by
    unfold Env.T Env.glue; simp only; rw [List.getElem?_append_right (by omega), List.getElem?_drop, hl]; congr 2; congr 1; omega
  have hμ1 : ∀ i, i < n → (E.glue eb n).μ i = eb.μ i := fun i hi => by simp [Env.glue, hi]
  have hμ2 : ∀ i, n ≤ i → (E.glue eb n).μ i = E.μ i := fun i hi => by simp [Env.glue, Nat.not_lt.2 hi]
  have hoth : ∀ i b, n ≤ i → i < E.H.length → E.μ i = some b → eb.w.heap[b]? = E.w.heap[b]? ∧ eb.G b = E.G b := fun i b hi hil hb =>
    fr.heap b (ok.live i b hil hb) fun j hj hjb => by
      rw [hcl] at hj
      have := ok.inj j i b (by omega) hil hjb hb
      omega
  have le : E.Le (E.glue eb n) := by
    refine ⟨by omega, fun i hi ht => ?_, fun b off ho => fr.le.cell b off ho, fun i m ht => ?_⟩
    · rcases Nat.lt_or_ge i n with h | h
      · have := fr.le.obj i (by omega) (by rw [Env.cut_T h]; exact ht)
        rw [hT1 i h, hμ1 i h]; exact this
      · rw [hT2 i h, hμ2 i h]; exact ⟨ht, fun b hb => hb⟩
    · have hi := T_lt ht
      rcases Nat.lt_or_ge i n with h | h
      · obtain ⟨m', k1, k2, k3⟩ := fr.le.tok i m (by rw [Env.cut_T h]; exact ht)
        exact ⟨m', by rw [hT1 i h]; exact k1, k2, fun e => by rw [hμ1 i h]; exact k3 e⟩
      · refine ⟨m, by rw [hT2 i h]; exact ht, Nat.le_refl _, fun _ => ⟨hμ2 i h, fun b cs t hb hh => ?_⟩⟩
        obtain ⟨h1, h2⟩ := hoth i b h hi hb
        exact ⟨h2, cs, h1.trans hh, rfl⟩
  have leb : eb.Le (E.glue eb n) := by
    refine ⟨by omega, fun i hi ht => ?_, fun b off ho => ⟨ho, rfl⟩, fun i m ht => ?_⟩
    · rw [hT1 i (by omega), hμ1 i (by omega)]; exact ⟨ht, fun b hb => hb⟩
    · have hi := T_lt ht
      exact ⟨m, by rw [hT1 i (by omega)]; exact ht, Nat.le_refl _, fun _ => ⟨hμ1 i (by omega), fun b cs t hb hh => ⟨rfl, cs, hh, rfl⟩⟩⟩
  have hO : ∀ i b, i < (E.glue eb n).H.length → (E.glue eb n).μ i = some b → E.w.heap.size ≤ b ∨ ∃ j, j < E.H.length ∧ E.μ j = some b := fun i b hi h1 => by
    rw [hlen] at hi
    rcases Nat.lt_or_ge i n with h | h
    · rw [hμ1 i h] at h1
      rcases fr.objs i b (by omega) h1 with h3 | ⟨q, hq, h3⟩
      · exact .inl h3
      · rw [hcl] at hq; exact .inr ⟨q, by omega, h3⟩
    · rw [hμ2 i h] at h1; exact .inr ⟨i, hi, h1⟩
  have hB : ∀ b, b < E.w.heap.size → (∀ i, i < E.H.length → E.μ i ≠ some b) → (E.glue eb n).w.heap[b]? = E.w.heap[b]? ∧ (E.glue eb n).G b = E.G b := fun b hb hno =>
    fr.heap b hb fun i hi hib => by rw [hcl] at hi; exact hno i (by omega) hib
  refine ⟨⟨okb.fresh, fun i o ho => ?_, fun i j b hi hj h1 h2 => ?_, fun i b hi h1 => ?_, ok.tabs.of fr.size (fun b hb hno => (hB b hb hno).1) hO⟩, ⟨fr.size, fr.still, hB, hO, le⟩, leb⟩
  · rcases Nat.lt_or_ge i n with h | h
    · have ho' : eb.H[i]? = some o := by
        have : (E.glue eb n).H[i]? = eb.H[i]? := by unfold Env.glue; exact List.getElem?_append_left (by omega)
        rw [← this]; exact ho
      exact ObjSim.mono leb (okb.objs i o ho') (hμ1 i h) (fun _ _ => ⟨rfl, rfl⟩)
    · have hil : i < E.H.length := by have := lt_of_get? ho; omega
      have ho' : E.H[i]? = some o := by
        have : (E.glue eb n).H[i]? = E.H[i]? := by
          unfold Env.glue; simp only; rw [List.getElem?_append_right (by omega), List.getElem?_drop, hl]; congr 1; omega
        rw [← this]; exact ho
      exact ObjSim.mono le (ok.objs i o ho') (hμ2 i h) (fun b hb => hoth i b h hil hb)
  · rw [hlen] at hi hj
    have mix : ∀ i j, i < n → n ≤ j → j < E.H.length → eb.μ i = some b → E.μ j = some b → False := fun i j hi hj hjl h1 h2 => by
      rcases fr.objs i b (by omega) h1 with h3 | ⟨q, hq, h3⟩
      · have := ok.live j b hjl h2
        have e1 : (E.cut n).w.heap.size = E.w.heap.size := rfl
        omega
      · rw [hcl] at hq
        have := ok.inj q j b (by omega) hjl h3 h2
        omega
    rcases Nat.lt_or_ge i n with h | h
    · rw [hμ1 i h] at h1
      rcases Nat.lt_or_ge j n with k | k
      · rw [hμ1 j k] at h2; exact okb.inj i j b (by omega) (by omega) h1 h2
      · rw [hμ2 j k] at h2; exact (mix i j h k hj h1 h2).elim
    · rw [hμ2 i h] at h1
      rcases Nat.lt_or_ge j n with k | k
      · rw [hμ1 j k] at h2; exact (mix j i k h hi h2 h1).elim
      · rw [hμ2 j k] at h2; exact ok.inj i j b hi hj h1 h2
  · rw [hlen] at hi
    rcases Nat.lt_or_ge i n with h | h
    · rw [hμ1 i h] at h1; exact okb.live i b (by omega) h1
    · rw [hμ2 i h] at h1; exact Nat.lt_of_lt_of_le (ok.live i b hi h1) fr.size
def noCells : Obj → Bool
  | .cells _ _ _ => false
  | _ => true
def Env.setRaw (e : Env) (i b : Nat) (o : Obj) : Env := { e with H := e.H.set i (.raw o), w := e.w.putObj b o }
theorem cell?_noCells {w : World} {b off : Nat} {o : Obj} (h : w.heap[b]? = some o) (ho : noCells o = true) : w.cell? ⟨b, off, none⟩ = none := by
  unfold World.cell?; simp only [h]; cases o <;> first | rfl | cases ho
theorem setRaw_all {e : Env} {i b : Nat} {o0 o : Obj} (ok : EnvOK e) (h : e.H[i]? = some (.raw o0)) (hb : e.μ i = some b) (h0 : noCells o0 = true) (h1 : noCells o = true) :
    EnvOK (e.setRaw i b o) ∧ Fr e (e.setRaw i b o) := by
  have hi := lt_of_get? h
  obtain ⟨b', hb', hh, hg⟩ := ok.objs i _ h
  rw [hb] at hb'; cases hb'
  have hlt := lt_of_heap hh
  have hlen : (e.setRaw i b o).H.length = e.H.length := by simp [Env.setRaw]
  have hsz : (e.setRaw i b o).w.heap.size = e.w.heap.size := by simp [Env.setRaw]
  have hT : ∀ j, (e.setRaw i b o).T j = e.T j := fun j => by
    unfold Env.T Env.setRaw; simp only
    by_cases hj : i = j
    · subst hj; rw [List.getElem?_set_self hi, h]; rfl
    · rw [List.getElem?_set_ne hj]
  have hoth : ∀ b', b' ≠ b → (e.setRaw i b o).w.heap[b']? = e.w.heap[b']? := fun b' hne => World.putObj_heap_other hne
  have hsame : (e.setRaw i b o).w.heap[b]? = some o := World.putObj_heap_same hlt
  have le : e.Le (e.setRaw i b o) := by
    refine ⟨by omega, fun j hj ht => ⟨by rw [hT]; exact ht, fun b' hb' => hb'⟩, fun b' off ho => ⟨ho, ?_⟩, fun j m ht => ⟨m, by rw [hT]; exact ht, Nat.le_refl _, fun _ => ⟨rfl, fun b' cs t hm hc => ⟨rfl, cs, ?_, rfl⟩⟩⟩⟩
    · by_cases hne : b' = b
      · subst hne; rw [cell?_noCells hh h0, cell?_noCells hsame h1]
      · exact cell?_of_heap (hoth b' hne)
    · have hne : b' ≠ b := fun hx => by
        subst hx; rw [hh] at hc; cases hc; cases h0
      exact (hoth b' hne).trans hc
  refine ⟨⟨fun b' hb' => ok.fresh b' (by omega), fun j q hq => ?_, fun j k b' hj hk => ok.inj j k b' (by omega) (by omega), fun j b' hj hm => by rw [hsz]; exact ok.live j b' (by omega) hm,
      ok.tabs.of (by omega) (fun b' hb' hno => hoth b' fun hx => by subst hx; exact hno i hi hb) fun j b' hj hm => .inr ⟨j, by omega, hm⟩⟩,
    ⟨by omega, ⟨rfl, rfl⟩, fun b' hb' hno => ⟨hoth b' (fun hx => by subst hx; exact hno i hi hb), rfl⟩, fun j b' hj hm => .inr ⟨j, by omega, hm⟩, le⟩⟩
  by_cases hj : i = j
  · subst hj
    simp only [Env.setRaw, List.getElem?_set_self hi, Option.some.injEq] at hq
    subst hq
    exact ⟨b, hb, hsame, hg⟩
  · have hq' : e.H[j]? = some q := by simpa [Env.setRaw, List.getElem?_set_ne hj] using hq
    refine ObjSim.mono le (ok.objs j q hq') rfl (fun b' hb' => ⟨hoth b' (fun hx => ?_), rfl⟩)
    subst hx
    exact hj (ok.inj i j b' hi (lt_of_get? hq') hb hb')
theorem push_raw {e : Env} (ok : EnvOK e) (ob : Obj) : ObjSim (e.push (.raw ob) ob) e.H.length (.raw ob) :=
  ⟨e.w.heap.size, by simp [Env.push], alloc_heap_new _ _, ok.fresh _ (Nat.le_refl _)⟩
def AYieldAt (es : Env) (P : Program) (l : Nat) (x : AV) (H : List AObj) (b : Bool) (H' : List AObj) : Prop :=
  ∀ e v, es.Le e → EnvOK e → e.H = H → Rep e x v → ∃ fn tmps assign body, (Instr.yield l #[v]).run P e.w = .ok (.round l fn tmps assign body) e.w ∧
    RoundIn (FW none) 0 P l fn tmps assign body e.w fun x w' => x = .returned (.bool b) ∧ ∃ e', e'.w = w' ∧ EnvOK e' ∧ Fr e e' ∧ e'.H = H'
theorem AYieldAt.mono {es es' : Env} {P : Program} {l : Nat} {x : AV} {H H' : List AObj} {b : Bool} (h : AYieldAt es P l x H b H') (k : es.Le es') : AYieldAt es' P l x H b H' :=
  fun e v hl ok hH hx => h e v (k.trans hl) ok hH hx
def goes (m : Nat) (st : Bool) (i : Nat) : Bool := !(st && Nat.beq (i + 1) m)
/-- **An iterator** that makes its rounds at xs, in order, until it is told to stop. -/
def AIter (P : Program) (f : FuncId) (first caps : List AV) (xs : List AV) : Prop :=
  ∀ (m : Nat) (st : Bool), m ≤ xs.length → (st = false → m = xs.length) → (st = true → 0 < m) →
    ∀ l (T : Nat → List AObj) e (vs : Array Value), (∀ i, (T i).length = (T 0).length) → EnvOK e → e.H = T 0 → RepL e (first ++ [.fn (.yield l) [] []] ++ caps) vs.toList →
    (∀ i x, i < m → xs[i]? = some x → ∀ X, AYieldAt e P l x (T i ++ X) (goes m st i) (T (i + 1) ++ X)) →
    CallsIn (FW none) 0 P f vs e.w fun x w' => ∃ u e', x = .returned u ∧ e'.w = w' ∧ EnvOK e' ∧ Fr e e' ∧ ∃ X, e'.H = T m ++ X
theorem objsIn_append {n : Nat} : ∀ {l m : List AObj}, objsIn n (l ++ m) = (objsIn n l && objsIn n m)
  | [], m => by simp [objsIn]
  | o :: l, m => by simp [objsIn, objsIn_append, Bool.and_assoc]
mutual
theorem AV.inB_mono {n n' : Nat} (h : n ≤ n') : ∀ (a : AV), a.inB n = true → a.inB n' = true
  | .any, _ => rfl
  | .raw _, _ => rfl
  | .agg l, k => by rw [AV.inB] at k ⊢; exact AV.inL_mono h l k
  | .tup l, k => by rw [AV.inB] at k ⊢; exact AV.inL_mono h l k
  | .iptr l, k => by rw [AV.inB] at k ⊢; exact AV.inL_mono h l k
  | .sl _ es, k => by rw [AV.inB] at k ⊢; exact AV.inE_mono h es k
  | .slx _ es, k => by rw [AV.inB] at k ⊢; exact AV.inE_mono h es k
  | .fn _ x y, k => by rw [AV.inB, Bool.and_eq_true] at k ⊢; exact ⟨AV.inL_mono h x k.1, AV.inL_mono h y k.2⟩
  | .ifc _ a, k => by rw [AV.inB] at k ⊢; exact AV.inB_mono h a k
  | .cnd _ a, k => by rw [AV.inB] at k ⊢; exact AV.inB_mono h a k
  | .ptr i _, k => by rw [AV.inB, Nat.blt_eq] at k ⊢; omega
  | .msl i _ _ _, k => by rw [AV.inB, Nat.blt_eq] at k ⊢; omega
  | .mslp i _ _, k => by rw [AV.inB, Nat.blt_eq] at k ⊢; omega
  | .uptr i _, k => by rw [AV.inB, Nat.blt_eq] at k ⊢; omega
  | .mp i, k => by rw [AV.inB, Nat.blt_eq] at k ⊢; omega
  | .own i _ es, k => by
    rw [AV.inB, Bool.and_eq_true, Nat.blt_eq] at k ⊢; exact ⟨by omega, AV.inE_mono h es k.2⟩
  | .ownb i _ _ es, k => by
    rw [AV.inB, Bool.and_eq_true, Nat.blt_eq] at k ⊢; exact ⟨by omega, AV.inE_mono h es k.2⟩
theorem AV.inL_mono {n n' : Nat} (h : n ≤ n') : ∀ (l : List AV), AV.inL n l = true → AV.inL n' l = true
  | [], _ => rfl
  | a :: l, k => by rw [AV.inL, Bool.and_eq_true] at k ⊢; exact ⟨AV.inB_mono h a k.1, AV.inL_mono h l k.2⟩
theorem AV.inE_mono {n n' : Nat} (h : n ≤ n') : ∀ (l : List (List AV)), AV.inE n l = true → AV.inE n' l = true
  | [], _ => rfl
  | c :: l, k => by rw [AV.inE, Bool.and_eq_true] at k ⊢; exact ⟨AV.inL_mono h c k.1, AV.inE_mono h l k.2⟩
end
theorem objsIn_mono {n n' : Nat} (h : n ≤ n') : ∀ {l : List AObj}, objsIn n l = true → objsIn n' l = true
  | [], _ => rfl
  | o :: l, k => by
    simp only [objsIn, Bool.and_eq_true] at k ⊢
    refine ⟨?_, objsIn_mono h k.2⟩
    cases o with
    | cells l => exact AV.inL_mono h l k.1
    | pre l => exact AV.inL_mono h l k.1
    | tcells _ l => exact AV.inL_mono h l k.1
    | _ => rfl
def jumpOK : Option Code → Bool
  | none | some .ret | some (.exit _) => true
  | _ => false
def jumpEx : Option Code → AExit → Prop
  | none, ax => ax = .normal
  | some .ret, ax => ax = .ret
  | some (.exit id), ax => ax = .exit id
  | some _, _ => False
section range
variable {c : Ctx} {Q : AExit → St → Prop} {s : St}
theorem le_cut {e e' : Env} {n : Nat} (h : e.Le e') (hn : e.H.length ≤ n) : e.Le (e'.cut n) := by
  have hl := h.len
  refine ⟨by rw [cut_H, List.length_take]; omega, fun i hi ht => ?_, h.cell, fun i m ht => ?_⟩
  · rw [Env.cut_T (by omega)]; exact h.obj i hi ht
  · have := T_lt ht
    rw [Env.cut_T (by omega)]; exact h.tok i m ht
theorem Fr.cut {e e' : Env} {n : Nat} (h : Fr e e') (hn : e.H.length ≤ n) : Fr e (e'.cut n) := by
  have hl : (e'.cut n).H.length ≤ e'.H.length := by rw [cut_H, List.length_take]; omega
  exact ⟨h.size, h.still, h.heap, fun i b hi => h.objs i b (by omega), le_cut h.le hn⟩
/-- **A range over a function**, outermost: T tells the objects behind so many rounds; m rounds are made; the last one leaves by the jump, if there is one. -/
theorem aw_rangeFunc {g : Operand} {p : Tmp} {assign body : Code} {f : FuncId} {first caps xs : List AV} (T : Nat → List AObj) (m : Nat) (jump : Option Code) (sl1 : Nat → AV → List (Nat × AV))
    (hm : m ≤ xs.length) (hj : jump = none → m = xs.length) (hj' : jump ≠ none → 0 < m) (hjo : jumpOK jump = true) (hr : c.r = none) (hg : Less (s.op g) (.fn (.func f) first caps)) (he : Ent c.P f) (hit : AIter c.P f first caps xs)
    (hT0 : T 0 = s.H) (hlen : ∀ i, (T i).length = s.H.length) (hin : ∀ i, i ≤ m → objsIn s.H.length (T i) = true) (hpx : ∀ x ∈ xs, x.pureB = true) (hp : Nat.blt p c.nt = true)
    (ha : ∀ l i x e0, i < m → xs[i]? = some x → e0.H = T i → AWP ⟨c.P, some l, c.nt, e0⟩ assign (fun ax s' => ax = .normal ∧ s' = ⟨sl1 i x, T i, []⟩) ⟨(p, x) :: s.sl, T i, []⟩)
    (hb : ∀ l i x e0, i < m → xs[i]? = some x → e0.H = T i → AWP ⟨c.P, some l, c.nt, e0⟩ body (fun ax s' => (∃ Y, s'.H = T (i + 1) ++ Y) ∧ s'.df = [] ∧ jumpEx (if i + 1 = m then jump else none) ax) ⟨sl1 i x, T i, []⟩)
    (k : ∀ ax, jumpEx jump ax → Q ax ⟨s.sl, T m ++ [.raw (.deferred (some []))], .mark s.H.length :: s.df⟩) :
    AWP c (.rangeFunc g #[p] assign body) Q s := by
  intro e a hs
  refine wpIn_rangeFunc fun fn hfn => ?_
  have hgr := hg e _ (hs.op g)
  rw [Rep] at hgr
  obtain ⟨fv, cv, hfv, r1, r2⟩ := hgr
  obtain ⟨rec, hrec⟩ : ∃ rec : LoopState → Option Code → Loop, rec = fun st pe => { state := st, pending := pe, fn, tmps := a.tmps, params := #[p], assign, body, defers := e.w.heap.size } := ⟨_, rfl⟩
  have hr1 : ∀ st pe st', { rec st pe with state := st' } = rec st' pe := by intros; rw [hrec]
  have hr2 : ∀ st pe st' pe', { rec st pe with state := st', pending := pe' } = rec st' pe' := by intros; rw [hrec]
  let n := s.H.length
  have hn : e.H.length = n := by rw [hs.H]
  let D : AObj := .raw (.deferred (some []))
  let L : LoopState → Option Code → AObj := fun st pe => .raw (.loop (rec st pe))
  have s1 := hs.push (o := D) (ob := .deferred (some [])) (push_raw hs.ok _)
  have s2 := s1.push (o := L .ready none) (ob := .loop (rec .ready none)) (push_raw s1.ok _)
  have hb2 : ((e.push D (.deferred (some []))).push (L .ready none) (.loop (rec .ready none))).μ (n + 1) = some (e.w.heap.size + 1) := by
    simp [Env.push, hn]
  have hb1 : ((e.push D (.deferred (some []))).push (L .ready none) (.loop (rec .ready none))).μ n = some e.w.heap.size := by
    simp [Env.push, hn]
  have h1 := Env.push_le hs.ok D (.deferred (some []))
  have h2 := h1.trans (Env.push_le s1.ok (L .ready none) (.loop (rec .ready none)))
  generalize hE1 : (e.push D (.deferred (some []))).push (L .ready none) (.loop (rec .ready none)) = E1 at s2 hb2 hb1 h2
  have hw1 : E1.w = (e.w.alloc (.deferred (some []))).alloc (.loop (rec .ready none)) := by rw [← hE1]; rfl
  have hH1 : E1.H = T 0 ++ [D, L .ready none] := by rw [s2.H, hT0]; simp
  let jl := e.w.heap.size + 1
  refine ⟨jl, [{ target := .collected e.w.heap.size, args := #[] }], E1.w, { target := .fn (.func f) cv, args := fv ++ #[.func (.yield jl) #[] #[]] }, E1.w, f, fv ++ #[.func (.yield jl) #[] #[]] ++ cv, E1.w, ?_, ?_, fun _ _ => trivial, ?_, fun h => by simp [FW] at h, ?_⟩
  · have : (FW c.r).round = none := hr
    rw [this, hw1, hrec]; exact run_enterLoop_outer _ _ _ _ _
  · simp only [resolve, rangeCall, hfv, Deferred.ofValue]
    simp [Act.eval]
  · exact he (fv ++ #[.func (.yield jl) #[] #[]] ++ cv) E1.w
  let st := jump.isSome
  let Lk : Nat → AObj := fun i => if st && Nat.beq i m then L .done jump else L .ready none
  have hm0 : ¬ (st = true ∧ m = 0) := fun ⟨h1, h2⟩ => by
    have := hj' (by rintro rfl; simp [st] at h1); omega
  have hLk0 : Lk 0 = L .ready none := by
    simp only [Lk]
    cases hst : st with
    | false => rfl
    | true =>
      have : Nat.beq 0 m = false := by cases hb : Nat.beq 0 m with | false => rfl | true => exact absurd ⟨hst, (Nat.eq_of_beq_eq_true hb).symm⟩ hm0
      simp [this]
  let T' : Nat → List AObj := fun i => T i ++ [D, Lk i]
  have hT' : ∀ i, (T' i).length = n + 2 := fun i => by simp [T', hlen, n]
  refine CallsIn.mono (hit m st hm (fun h => hj (by cases jump <;> simp_all [st])) (fun h => hj' (by rintro rfl; simp [st] at h)) jl T' E1 _ (fun i => by rw [hT', hT']) s2.ok (by rw [hH1]; simp only [T', hLk0])
    ?_ ?_) ?_
  · have l1 : RepL E1 first fv.toList := RepL.mono h2 _ r1
    have l2 : RepL E1 caps cv.toList := RepL.mono h2 _ r2
    have l3 : RepL E1 [.fn (.yield jl) [] []] [.func (.yield jl) #[] #[]] := RepL.cons (by rw [Rep]; exact ⟨#[], #[], rfl, RepL.nil, RepL.nil⟩) RepL.nil
    simpa using (l1.append l3).append l2
  · -- one round
    intro i x hi hx X E v hle ok hH hv
    have hLi : Lk i = L .ready none := by
      simp only [Lk]
      have : Nat.beq i m = false := by cases hb : Nat.beq i m with | false => rfl | true => exact absurd (Nat.eq_of_beq_eq_true hb) (by omega)
      simp [this]
    have hlT := hlen i
    have hHE : E.H[n + 1]? = some (L .ready none) := by
      rw [hH]; simp only [T', hLi, List.append_assoc]
      rw [List.getElem?_append_right (by omega), hlT]; simp [n]
    have hμE : E.μ (n + 1) = some jl := (hle.obj (n + 1) (by rw [hH1]; simp [hT0, n]) (by
      unfold Env.T; rw [hH1, List.getElem?_append_right (by rw [hT0]; omega), hT0]; simp [n, L, tokOf])).2 _ hb2
    obtain ⟨b', hb', hloop, _⟩ := ok.objs _ _ hHE
    rw [hμE] at hb'; cases hb'
    have hcH0 : (E.cut n).H = T i := by rw [cut_H, hH]; simp only [T', List.append_assoc]; exact List.take_left' hlT
    have okc0 : EnvOK (E.cut n) := cut_ok ok (by rw [← cut_H, hcH0]; exact hin i (by omega))
    have hlec0 : e.Le (E.cut n) := le_cut (h2.trans hle) (by omega)
    have hsim0 : Sim ⟨c.P, some jl, c.nt, E.cut n⟩ ⟨(p, x) :: s.sl, T i, []⟩ (E.cut n) { tmps := ((#[p] : Array Tmp).zip #[v]).foldl (fun tmps (t, a) => tmps.setIfInBounds t a) a.tmps, defers := [] } := by
      have hpl : p < a.tmps.size := by rw [hs.size]; simpa [Nat.blt_eq] using hp
      have ht : ((#[p] : Array Tmp).zip #[v]).foldl (fun tmps (t, a) => tmps.setIfInBounds t a) a.tmps = a.tmps.setIfInBounds p v := by simp
      rw [ht]
      refine ⟨by simpa using hs.size, ?_, DRepL.nil, hcH0, okc0, Fr.refl _⟩
      have hxv : Rep (E.cut n) x v := Rep.pure (e := E) (e' := E.cut n) rfl rfl x (hpx x (List.mem_of_getElem? hx)) hv
      exact Act.put_rep (a := { tmps := a.tmps, defers := [] }) (fun t => Rep.mono hlec0 _ (hs.slots t)) hxv p hpl
    refine ⟨fn, ((#[p] : Array Tmp).zip #[v]).foldl (fun tmps (t, a) => tmps.setIfInBounds t a) a.tmps, assign, body, ?_, roundIn_of_wpIn (F := FW none) trivial ?_⟩
    · have := run_yield (P := c.P) (args := #[v]) hloop (by rw [hrec]; rfl)
      rw [hrec] at this; exact this
    refine wpIn_mono (ha jl i x (E.cut n) hi hx hcH0 (E.cut n) _ hsim0) ?_
    rintro ex a1 w1 ⟨ax1, s1', e1, ⟨rfl, rfl⟩, rfl, hsim1, hex1⟩
    obtain rfl : ex = .normal := hex1
    obtain ⟨okG, frG, leG⟩ := glue_all ok (n := n) (by rw [hH]; simp [T', hlT, n]) hsim1.ok hsim1.fr (by rw [hsim1.H, hlT])
    have hHG : (E.glue e1 n).H = T' i ++ X := by
      show e1.H ++ E.H.drop n = _
      rw [hsim1.H, hH]; simp only [T', List.append_assoc]; rw [List.drop_left' hlT]
    have hμG : (E.glue e1 n).μ (n + 1) = some jl := by simp only [Env.glue]; rw [if_neg (by omega)]; exact hμE
    have hwG : (E.glue e1 n).w = e1.w := rfl
    rw [← hwG]
    have hleG := hle.trans frG.le
    have frEG := frG
    generalize E.glue e1 n = EG at okG frG leG hHG hμG hwG hleG frEG ⊢
    have hHE : EG.H[n + 1]? = some (L .ready none) := by
      rw [hHG]; simp only [T', hLi, List.append_assoc]
      rw [List.getElem?_append_right (by omega), hlT]; simp [n]
    obtain ⟨b'3, hb'3, hloop, _⟩ := okG.objs _ _ hHE
    rw [hμG] at hb'3; cases hb'3
    have hbeg := run_beginRound (P := c.P) hloop (by rw [hrec])
    rw [hr1] at hbeg
    refine ⟨_, hbeg, ?_⟩
    obtain ⟨ok2, fr2⟩ := setRaw_all (o := .loop (rec .busy none)) okG hHE hμG rfl rfl
    have hH2 : (EG.setRaw (n + 1) jl (.loop (rec .busy none))).H = T i ++ ([D, .raw (.loop (rec .busy none))] ++ X) := by
      show EG.H.set (n + 1) _ = _
      rw [hHG]; simp only [T', hLi, List.append_assoc]
      rw [List.set_append_right _ _ (by omega), hlT]; simp [n]
    have hl2 := hleG.trans fr2.le
    generalize hE2 : EG.setRaw (n + 1) jl (.loop (rec .busy none)) = E2 at ok2 fr2 hH2 hl2
    have hw2 : E2.w = EG.w.putObj jl (.loop (rec .busy none)) := by rw [← hE2]; rfl
    have hμ2 : E2.μ (n + 1) = some jl := by rw [← hE2]; exact hμG
    rw [← hw2]
    have hcH : (E2.cut n).H = T i := by rw [cut_H, hH2]; exact List.take_left' hlT
    have okc : EnvOK (E2.cut n) := cut_ok ok2 (by rw [← cut_H, hcH]; exact hin i (by omega))
    have hlec : e.Le (E2.cut n) := le_cut (h2.trans hl2) (by omega)
    have hle1 : e1.Le (E2.cut n) := le_cut (leG.trans fr2.le) (by rw [hsim1.H, hlT]; exact Nat.le_refl _)
    have hsim : Sim ⟨c.P, some jl, c.nt, E2.cut n⟩ ⟨sl1 i x, T i, []⟩ (E2.cut n) a1 :=
      ⟨hsim1.size, fun t => Rep.mono hle1 _ (hsim1.slots t), hsim1.defers.mono hle1, hcH, okc, Fr.refl _⟩
    have hbody := hb jl i x (E2.cut n) hi hx hcH (E2.cut n) _ hsim
    refine wpIn_mono hbody ?_
    rintro ex a3 w3 ⟨ax, s3, e3, ⟨⟨Y, hH3⟩, hdf3, hjx⟩, rfl, hs3, hex⟩
    have hcut : (e3.cut n).H = T (i + 1) := by rw [cut_H, hs3.H, hH3]; exact List.take_left' (hlen (i + 1))
    have ok3 : EnvOK (e3.cut n) := cut_ok hs3.ok (by rw [← cut_H, hcut]; exact hin (i + 1) (by omega))
    have fr3 : Fr (E2.cut n) (e3.cut n) := hs3.fr.cut (by rw [hcH, hlT]; exact Nat.le_refl _)
    obtain ⟨okg, frg, _⟩ := glue_all ok2 (n := n) (by rw [hH2]; simp [hlT, n]) ok3 fr3 (by rw [hcut, hlen])
    have hHg : (E2.glue (e3.cut n) n).H = T (i + 1) ++ ([D, .raw (.loop (rec .busy none))] ++ X) := by
      show (e3.cut n).H ++ E2.H.drop n = _
      rw [hcut, hH2, List.drop_left' hlT]
    have hlT1 := hlen (i + 1)
    have hHgl : (E2.glue (e3.cut n) n).H[n + 1]? = some (.raw (.loop (rec .busy none))) := by
      rw [hHg, List.getElem?_append_right (by omega), hlT1]; simp [n]
    have hμg : (E2.glue (e3.cut n) n).μ (n + 1) = some jl := by simp only [Env.glue]; rw [if_neg (by omega)]; exact hμ2
    obtain ⟨b'', hb'', hloop3, _⟩ := okg.objs _ _ hHgl
    rw [hμg] at hb''; cases hb''
    have fin : ∀ pe : Option Code, jumpEx (if i + 1 = m then jump else none) ax → pe = (if i + 1 = m then jump else none) →
        ∃ v w', (Instr.endRound jl pe).run c.P e3.w = .ok v w' ∧ (Ending.returned v = .returned (.bool (goes m st i)) ∧ ∃ e', e'.w = w' ∧ EnvOK e' ∧ Fr E e' ∧ e'.H = T' (i + 1) ++ X) := by
      intro pe _ hpe
      have hrun := run_endRound (P := c.P) pe (w := e3.w) hloop3
      rw [hr2] at hrun
      obtain ⟨ok4, fr4⟩ := setRaw_all (o := .loop (rec (if pe.isNone then .ready else .done) pe)) okg hHgl hμg rfl rfl
      refine ⟨_, _, hrun, ?_, (E2.glue (e3.cut n) n).setRaw (n + 1) jl (.loop (rec (if pe.isNone then .ready else .done) pe)), rfl, ok4, (frEG.trans (fr2.trans frg)).trans fr4, ?_⟩
      · congr 2
        simp only [goes]
        by_cases him : i + 1 = m
        · rw [if_pos him] at hpe
          subst hpe
          have : Nat.beq (i + 1) m = true := by rw [him]; exact Nat.beq_refl m
          rw [this]; simp only [st]; cases pe <;> rfl
        · rw [if_neg him] at hpe
          subst hpe
          have : Nat.beq (i + 1) m = false := by cases hb : Nat.beq (i + 1) m with | false => rfl | true => exact absurd (Nat.eq_of_beq_eq_true hb) him
          rw [this]; simp
      · show (E2.glue (e3.cut n) n).H.set (n + 1) _ = _
        rw [hHg, List.set_append_right _ _ (by omega), hlT1]
        simp only [T', List.append_assoc, n, Nat.add_sub_cancel_left]
        congr 1
        simp only [List.cons_append, List.nil_append, List.set_cons_succ, List.set_cons_zero, List.cons.injEq, true_and, and_true]
        simp only [Lk]
        by_cases him : i + 1 = m
        · rw [if_pos him] at hpe
          subst hpe
          have : Nat.beq (i + 1) m = true := by rw [him]; exact Nat.beq_refl m
          rw [this]; simp only [st, Bool.and_true, L, hrec]; cases pe <;> rfl
        · rw [if_neg him] at hpe
          subst hpe
          have : Nat.beq (i + 1) m = false := by cases hb : Nat.beq (i + 1) m with | false => rfl | true => exact absurd (Nat.eq_of_beq_eq_true hb) him
          rw [this]; simp only [Bool.and_false, L, hrec]; rfl
    cases ax with
    | normal =>
      obtain rfl : ex = .normal := hex
      refine fin none hjx ?_
      split at hjx
      · rename_i h; rw [if_pos h]; cases jump with
        | none => rfl
        | some q => cases q <;> first | cases hjx | exact hjx.elim
      · rename_i h; rw [if_neg h]
    | ret =>
      obtain rfl : ex = .ret := hex
      refine fin (some .ret) hjx ?_
      split at hjx
      · rename_i h; rw [if_pos h]; cases jump with
        | none => cases hjx
        | some q => cases q <;> first | (cases hjx; rfl) | (cases hjx; done) | exact hjx.elim
      · cases hjx
    | exit id =>
      obtain rfl : ex = .exit id := hex
      refine fin (some (.exit id)) hjx ?_
      split at hjx
      · rename_i h; rw [if_pos h]; cases jump with
        | none => cases hjx
        | some q => cases q <;> first | (cases hjx; rfl) | (cases hjx; done) | exact hjx.elim
      · cases hjx
    | goto l =>
      split at hjx
      · cases jump with
        | none => cases hjx
        | some q => cases q <;> first | cases hjx | exact hjx.elim
      · cases hjx
    | panic v =>
      split at hjx
      · cases jump with
        | none => cases hjx
        | some q => cases q <;> first | cases hjx | exact hjx.elim
      · cases hjx
  · -- behind the iterator
    rintro ex w5 ⟨u, e5, rfl, rfl, ok5, fr5, X, hH5⟩
    have hlT := hlen m
    have hle5 := h2.trans fr5.le
    have hH5' : e5.H = T m ++ ([D, Lk m] ++ X) := by rw [hH5]; simp [T']
    have hLm : Lk m = L (if jump.isSome then .done else .ready) jump := by
      simp only [Lk, st, Nat.beq_refl, Bool.and_true]
      cases jump <;> rfl
    have hHl : e5.H[n + 1]? = some (L (if jump.isSome then .done else .ready) jump) := by
      rw [hH5', List.getElem?_append_right (by omega), hlT, ← hLm]; simp [n]
    have hμ5 : e5.μ (n + 1) = some jl := (fr5.le.obj (n + 1) (by rw [hH1]; simp [hT0, n]) (by
      unfold Env.T; rw [hH1, List.getElem?_append_right (by rw [hT0]; omega), hT0]; simp [n, L, tokOf])).2 _ hb2
    have hμD : e5.μ n = some e.w.heap.size := (fr5.le.obj n (by rw [hH1]; simp [hT0, n]) (by
      unfold Env.T; rw [hH1, List.getElem?_append_right (by rw [hT0]; omega), hT0]; simp [n, D, tokOf])).2 _ hb1
    obtain ⟨b', hb', hloop, _⟩ := ok5.objs _ _ hHl
    rw [hμ5] at hb'; cases hb'
    obtain ⟨ok6, fr6⟩ := setRaw_all (o := .loop (rec .exhausted jump)) ok5 hHl hμ5 rfl rfl
    have hend := run_endLoop (P := c.P) hloop (by rw [hrec]; cases jump <;> simp)
    rw [hr1] at hend
    have hpend : (rec (if jump.isSome then .done else .ready) jump).pending = jump := by rw [hrec]
    rw [hpend] at hend
    have hH6 : (e5.setRaw (n + 1) jl (.loop (rec .exhausted jump))).H = (T m ++ [D]) ++ (.raw (.loop (rec .exhausted jump)) :: X) := by
      show e5.H.set (n + 1) _ = _
      rw [hH5', List.set_append_right _ _ (by omega), hlT]; simp [n]
    have hw6 : (e5.setRaw (n + 1) jl (.loop (rec .exhausted jump))).w = e5.w.putObj jl (.loop (rec .exhausted jump)) := rfl
    have hle6 := hle5.trans fr6.le
    have hμ6 : (e5.setRaw (n + 1) jl (.loop (rec .exhausted jump))).μ n = some e.w.heap.size := hμD
    have fr16 := fr5.trans fr6
    generalize e5.setRaw (n + 1) jl (.loop (rec .exhausted jump)) = e6 at ok6 fr6 hH6 hw6 hle6 hμ6 fr16
    have hcH : (e6.cut (n + 1)).H = T m ++ [D] := by
      rw [cut_H, hH6]
      have : n + 1 = (T m ++ [D]).length := by simp [hlT, n]
      rw [this, List.take_left']; rfl
    have okc : EnvOK (e6.cut (n + 1)) := cut_ok ok6 (by
      rw [← cut_H, hcH, objsIn_append, Bool.and_eq_true]
      exact ⟨objsIn_mono (Nat.le_succ _) (hin m (Nat.le_refl _)), rfl⟩)
    have hlec : e.Le (e6.cut (n + 1)) := le_cut hle6 (by omega)
    have frE1 : Fr c.e0 E1 := s2.fr
    have frc : Fr c.e0 (e6.cut (n + 1)) := by
      have f6 := frE1.trans fr16
      refine ⟨f6.size, f6.still, f6.heap, fun i b hi => f6.objs i b (by
        have : (e6.cut (n + 1)).H.length ≤ e6.H.length := by rw [cut_H, List.length_take]; omega
        omega), le_cut f6.le (by have := hs.fr.le.len; omega)⟩
    have hsimc : Sim c ⟨s.sl, T m ++ [.raw (.deferred (some []))], .mark s.H.length :: s.df⟩ (e6.cut (n + 1)) { a with defers := [{ target := .collected e.w.heap.size, args := #[] }] ++ a.defers } := by
      refine ⟨hs.size, fun t => Rep.mono hlec _ (hs.slots t), ?_, hcH, okc, frc⟩
      refine DRepL.cons ⟨by rw [hcH]; simp [hlT], ?_, _, hμ6, rfl⟩ (hs.defers.mono hlec)
      unfold Env.T; rw [hcH, List.getElem?_append_right (by omega), hlT]; simp [D, tokOf]
    have hend' : (Instr.endLoop jl).run c.P e5.w = .ok jump e6.w := by rw [hw6]; exact hend
    refine ⟨jump, _, hend', ?_⟩
    cases jump with
    | none => exact ⟨.normal, _, e6.cut (n + 1), k .normal rfl, rfl, hsimc, rfl⟩
    | some q =>
      cases q with
      | ret => exact wpIn_ret ⟨.ret, _, e6.cut (n + 1), k .ret rfl, rfl, hsimc, rfl⟩
      | exit id => exact wpIn_exit ⟨.exit id, _, e6.cut (n + 1), k (.exit id) rfl, rfl, hsimc, rfl⟩
      | _ => cases hjo
end range
end Go.Ab
namespace Go.Ab
variable [Tabs]
def imap (l : List (Int × Value)) : List (Value × Value) := l.map fun x => (.int .i64 x.1, x.2)
def mapPut (l : List (Int × Value)) (k : Int) (v : Value) : List (Int × Value) :=
  if l.any (fun x => decide (x.1 = k)) then l.map (fun x => if x.1 = k then (k, v) else x) else l ++ [(k, v)]
def isIntT (P : Program) (t : TypeId) : Bool := match P.underlying t with
  | some (.int .i64) => true
  | _ => false
theorem isIntT_eq {P : Program} {t : TypeId} (h : isIntT P t = true) : P.underlying t = some (.int .i64) := by
  unfold isIntT at h
  split at h
  · assumption
  · cases h
theorem run_checkKey {P : Program} {w : World} {kt : TypeId} (h : isIntT P kt = true) (b : Bool) (m : Nat) (k : IntKind) (n : Int) : (Instr.checkKey b (m + 1) kt (.int k n)).run P w = .ok () w := by
  unfold Instr.checkKey
  simp [run_und (isIntT_eq h)]
theorem findNow_int {n : Int} : ∀ {es : List MapEntry} {l : List (Int × Value)} (i : Nat), es.map (fun x => (x.key, x.val)) = imap l →
    Instr.findNow (.int .i64) (.int .i64 n) es i = some ((l.findIdx? fun x => decide (x.1 = n)).map fun j => (i + j, (l.getD j default).2))
  | [], l, i, h => by
    have : l = [] := by simpa [imap] using h.symm
    subst this; rfl
  | e :: es, [], i, h => by simp [imap] at h
  | e :: es, x :: l, i, h => by
    simp only [imap, List.map_cons, List.cons.injEq, Prod.mk.injEq] at h
    obtain ⟨⟨h1, h2⟩, h3⟩ := h
    have ih := findNow_int (n := n) (es := es) (l := l) (i + 1) (by simpa [imap] using h3)
    simp only [Instr.findNow, h1, Instr.sameNow, if_true]
    by_cases hx : x.1 = n
    · have : (n == x.1) = true := by simp [hx]
      rw [this]; simp [List.findIdx?_cons, hx, h2]
    · have : (n == x.1) = false := by simpa using fun e => hx e.symm
      rw [this]; simp only [ih, List.findIdx?_cons, hx, decide_false, Bool.false_eq_true, if_false, Option.map_map]
      congr 1
      cases l.findIdx? fun x => decide (x.1 = n) with
      | none => rfl
      | some j => simp [Nat.add_assoc, Nat.add_comm 1 j]
theorem run_findKey {P : Program} {w : World} {kt : TypeId} (h : isIntT P kt = true) {n : Int} {es : List MapEntry} {l : List (Int × Value)} (he : es.map (fun x => (x.key, x.val)) = imap l) :
    (Instr.findKey kt (.int .i64 n) es).run P w = .ok ((l.findIdx? fun x => decide (x.1 = n)).map fun j => (j, (l.getD j default).2)) w := by
  have hz : (fun j => (0 + j, (l.getD j default).2)) = fun j => (j, (l.getD j default).2) := by funext j; rw [Nat.zero_add]
  have hf := findNow_int (n := n) 0 he
  rw [hz] at hf
  simp [Instr.findKey, run_und (isIntT_eq h), hf]
def mapTy (P : Program) (t : TypeId) : Option (TypeId × TypeId) := match P.underlying t with
  | some (.map k e) => some (k, e)
  | _ => none
theorem mapTy_eq {P : Program} {t k e : TypeId} (h : mapTy P t = some (k, e)) : P.underlying t = some (.map k e) := by
  unfold mapTy at h
  split at h
  · rename_i k' e' h'; simp only [Option.some.injEq, Prod.mk.injEq] at h; obtain ⟨rfl, rfl⟩ := h; exact h'
  · cases h
theorem push_map {e : Env} : ObjSim (e.push (.map []) (.map #[] 0)) e.H.length (.map []) :=
  ⟨e.w.heap.size, #[], 0, by simp [Env.push], alloc_heap_new _ _, rfl⟩
section seq
variable {c : Ctx} {ops : Array Oper} {Q : AExit → St → Prop} {rest : List Oper} {s : St} {i : Nat}
variable {d : Option Tmp} {t : TypeId} {p : String} {af : Array Edge}
theorem sq_makeMap {mt : TypeId} (hd : dOK c.nt d = true) (k : SeqWP c ops Q (i + 1) rest (St.put { s with H := s.H ++ [.map []] } d (.mp s.H.length))) : SeqWP c ops Q i (⟨d, .makeMap mt none, t, p, af, none⟩ :: rest) s :=
  sq_run (by intro c h; cases h) hd (fun e ac hs => by
    refine ⟨.map (some e.w.heap.size), e.push (.map []) (.map #[] 0), ?_, hs.push push_map, ?_⟩
    · simp [execOp, Instr.makeMap, run_newObj_alloc, Env.push]
    · rw [Rep]
      refine ⟨by simp [Env.push, hs.H], ?_, e.w.heap.size, by simp [Env.push, hs.H], rfl⟩
      unfold Env.T; simp [Env.push, hs.H, tokOf]) k
def Env.setMap (e : Env) (i b : Nat) (l : List (Value × Value)) (o : Obj) : Env := { e with H := e.H.set i (.map l), w := e.w.putObj b o }
theorem setMap_sim {e : Env} {a : Act} (hs : Sim c s e a) {i b : Nat} {es0 es : List (Value × Value)} {ents0 ents : Array MapEntry} {cl0 cl : Nat} (h : s.H[i]? = some (.map es0)) (hb : e.μ i = some b)
    (hh : e.w.heap[b]? = some (.map ents0 cl0)) (hes : ents.toList.map (fun x => (x.key, x.val)) = es) : Sim c { s with H := s.H.set i (.map es) } (e.setMap i b es (.map ents cl)) a := by
  have h : e.H[i]? = some (.map es0) := by rw [hs.H]; exact h
  have ok := hs.ok
  have hi := lt_of_get? h
  have hlt := lt_of_heap hh
  have hlen : (e.setMap i b es (.map ents cl)).H.length = e.H.length := by simp [Env.setMap]
  have hsz : (e.setMap i b es (.map ents cl)).w.heap.size = e.w.heap.size := by simp [Env.setMap]
  have hT : ∀ j, (e.setMap i b es (.map ents cl)).T j = e.T j := fun j => by
    unfold Env.T Env.setMap; simp only
    by_cases hj : i = j
    · subst hj; rw [List.getElem?_set_self hi, h]; rfl
    · rw [List.getElem?_set_ne hj]
  have hoth : ∀ b', b' ≠ b → (e.setMap i b es (.map ents cl)).w.heap[b']? = e.w.heap[b']? := fun b' hne => World.putObj_heap_other hne
  have hsame : (e.setMap i b es (.map ents cl)).w.heap[b]? = some (.map ents cl) := World.putObj_heap_same hlt
  have le : e.Le (e.setMap i b es (.map ents cl)) := by
    refine ⟨by omega, fun j hj ht => ⟨by rw [hT]; exact ht, fun b' hb' => hb'⟩, fun b' off ho => ⟨ho, ?_⟩, fun j m ht => ⟨m, by rw [hT]; exact ht, Nat.le_refl _, fun _ => ⟨rfl, fun b' cs t hm hc => ⟨rfl, cs, ?_, rfl⟩⟩⟩⟩
    · by_cases hne : b' = b
      · subst hne; rw [cell?_noCells hh rfl, cell?_noCells hsame rfl]
      · exact cell?_of_heap (hoth b' hne)
    · have hne : b' ≠ b := fun hx => by
        subst hx; rw [hh] at hc; cases hc
      exact (hoth b' hne).trans hc
  refine ⟨hs.size, fun t => Rep.mono le _ (hs.slots t), hs.defers.mono le, by simp [Env.setMap, hs.H], ⟨fun b' hb' => ok.fresh b' (by omega), fun j q hq => ?_, fun j k b' hj hk => ok.inj j k b' (by omega) (by omega), fun j b' hj hm => by rw [hsz]; exact ok.live j b' (by omega) hm,
      ok.tabs.of (by omega) (fun b' hb' hno => hoth b' fun hx => by subst hx; exact hno i hi hb) fun j b' hj hm => .inr ⟨j, by omega, hm⟩⟩,
    hs.fr.trans ⟨by omega, ⟨rfl, rfl⟩, fun b' hb' hno => ⟨hoth b' (fun hx => by subst hx; exact hno i hi hb), rfl⟩, fun j b' hj hm => .inr ⟨j, by omega, hm⟩, le⟩⟩
  by_cases hj : i = j
  · subst hj
    simp only [Env.setMap, List.getElem?_set_self hi, Option.some.injEq] at hq
    subst hq
    exact ⟨b, ents, cl, hb, hsame, hes⟩
  · have hq' : e.H[j]? = some q := by simpa [Env.setMap, List.getElem?_set_ne hj] using hq
    refine ObjSim.mono le (ok.objs j q hq') rfl (fun b' hb' => ⟨hoth b' (fun hx => ?_), rfl⟩)
    subst hx
    exact hj (ok.inj i j b' hi (lt_of_get? hq') hb hb')
theorem put_found {l : List (Int × Value)} {ents : List MapEntry} {n : Int} {v : Value} (he : ents.map (fun x => (x.key, x.val)) = imap l) {j : Nat} (hnd : (l.map (·.1)).Nodup)
    (hj : l.findIdx? (fun x => decide (x.1 = n)) = some j) : (ents.modify j fun e => { e with key := .int .i64 n, val := v }).map (fun x => (x.key, x.val)) = imap (mapPut l n v) := by
  rw [List.findIdx?_eq_some_iff_getElem] at hj
  obtain ⟨hjl, hjn, hlt⟩ := hj
  simp only [decide_eq_true_eq] at hjn
  have hany : l.any (fun x => decide (x.1 = n)) = true := by
    rw [List.any_eq_true]; exact ⟨l[j], List.getElem_mem hjl, by simp [hjn]⟩
  have hlen : ents.length = l.length := by have := congrArg List.length he; simpa [imap] using this
  unfold mapPut; rw [if_pos hany]
  refine List.ext_getElem? fun q => ?_
  simp only [List.getElem?_map, List.getElem?_modify, imap]
  have hq := congrArg (·[q]?) he
  simp only [imap, List.getElem?_map] at hq
  by_cases hqj : j = q
  · subst hqj
    rw [List.getElem?_eq_getElem hjl, List.getElem?_eq_getElem (by omega)]
    simp [hjn]
  · simp only [if_neg hqj]
    cases hlq : l[q]? with
    | none => rw [hlq] at hq; simpa using hq
    | some y =>
      rw [hlq] at hq
      have hy : y.1 ≠ n := by
        intro e
        have hql := lt_of_get? hlq
        have h1 : (l.map (·.1))[q]'(by simpa using hql) = (l.map (·.1))[j]'(by simpa using hjl) := by
          simp only [List.getElem_map]
          have : l[q] = y := by rw [List.getElem?_eq_getElem hql] at hlq; exact Option.some.inj hlq
          rw [this, e, hjn]
        rcases Nat.lt_or_gt_of_ne hqj with h | h
        · exact List.pairwise_iff_getElem.1 hnd j q _ _ h h1.symm
        · exact List.pairwise_iff_getElem.1 hnd q j _ _ h h1
      simp only [Option.map_some, if_neg hy] at hq ⊢
      simpa using hq
theorem sq_mapUpdate {mt kt et : TypeId} {x y z : Operand} {j : Nat} {l : List (Int × Value)} {n : Int} {v : Value} (hd : dOK c.nt d = true) (hmt : mapTy c.P mt = some (kt, et)) (hkt : isIntT c.P kt = true)
    (hx : Less (s.op x) (.mp j)) (hy : Less (s.op y) (.raw (.int .i64 n))) (hz : Less (s.op z) (.raw v)) (hj : s.H[j]? = some (.map (imap l))) (hnd : (l.map (·.1)).Nodup)
    (k : SeqWP c ops Q (i + 1) rest (St.put { s with H := s.H.set j (.map (imap (mapPut l n v))) } d .any)) : SeqWP c ops Q i (⟨d, .mapUpdate mt x y z, t, p, af, none⟩ :: rest) s := by
  refine sq_op fun e a hs next hn => ?_
  have hxr := hx e _ (hs.op x)
  rw [Rep] at hxr
  obtain ⟨h1, h2, b, hb, hxv⟩ := hxr
  have hyv := rep_raw hy (hs.op y)
  have hzv := rep_raw hz (hs.op z)
  obtain ⟨b', ents, cl, hb', hh, hents⟩ := hs.ok.objs j _ (by rw [hs.H]; exact hj)
  rw [hb] at hb'; cases hb'
  have hg : ∀ o : Obj, (setObj b o).run c.P e.w = .ok () (e.w.putObj b o) := fun o => by simp [setObj, Sem.run, hh, World.putObj]
  have hgo : (getObj b).run c.P e.w = .ok (.map ents cl) e.w := by simp [getObj, Sem.run, hh]
  have hfk := run_findKey (P := c.P) (w := e.w) hkt (n := n) hents
  have key : ∃ ents' cl', (Instr.mapUpdate mt (.map (some b)) (.int .i64 n) v).run c.P e.w = .ok () (e.w.putObj b (.map ents' cl')) ∧ ents'.toList.map (fun x => (x.key, x.val)) = imap (mapPut l n v) := by
    cases hf : l.findIdx? (fun x => decide (x.1 = n)) with
    | none =>
      rw [hf] at hfk
      refine ⟨ents.push { key := .int .i64 n, val := v, born := cl }, cl + 1, ?_, ?_⟩
      · simp [Instr.mapUpdate, run_und (mapTy_eq hmt), hgo, run_checkKey hkt, hfk, hg]
      · have hany : l.any (fun x => decide (x.1 = n)) = false := by
          rw [List.findIdx?_eq_none_iff] at hf
          rw [List.any_eq_false]; intro y hy; simpa using hf y hy
        unfold mapPut; rw [hany]
        simp [hents, imap]
    | some q =>
      rw [hf] at hfk
      have hf' := hf
      rw [List.findIdx?_eq_some_iff_getElem] at hf'
      obtain ⟨hql, hqn, _⟩ := hf'
      simp only [decide_eq_true_eq] at hqn
      have hq := congrArg (·[q]?) hents
      simp only [imap, List.getElem?_map, List.getElem?_eq_getElem hql, Option.map_some, hqn] at hq
      have hkey : ((ents[q]?).map (·.key)).getD (.int .i64 n) = .int .i64 n := by
        rw [Array.getElem?_toList] at hq
        cases he : ents[q]? with
        | none => rfl
        | some en => rw [he] at hq; simp at hq; simp [hq.1]
      have hks : (Instr.keyThatStays (.int .i64 n) (.int .i64 n)).run c.P e.w = .ok (.int .i64 n) e.w := by
        have : Instr.sameBits 10000 (.int .i64 n) (.int .i64 n) = true := by simp [Instr.sameBits]
        simp [Instr.keyThatStays, this]
      refine ⟨ents.modify q fun e => { e with key := .int .i64 n, val := v }, cl, ?_, ?_⟩
      · simp [Instr.mapUpdate, run_und (mapTy_eq hmt), hgo, run_checkKey hkt, hfk, hkey, hks, hg]
      · rw [Array.toList_modify]; exact put_found hents hnd hf
  obtain ⟨ents', cl', hrun, hes⟩ := key
  refine ⟨about_FW _ _ _ _ _, ?_⟩
  show Oper.uponIn (FW c.r) 0 c.P _ a next (lift c Q) ((Oper.semAt c.r a.eval ⟨d, .mapUpdate mt x y z, t, p, af, none⟩).run c.P e.w)
  rw [semAt_of (by intro c h; cases h)]
  have : (execOp a.eval ⟨d, .mapUpdate mt x y z, t, p, af, none⟩).run c.P e.w = .ok .skip (e.setMap j b (imap (mapPut l n v)) (.map ents' cl')).w := by
    simp [execOp, hxv, hyv, hzv, hrun, Env.setMap]
  rw [this]
  exact hn _ _ _ k ((setMap_sim hs hj hb hh hes).put hd (by rw [Rep]; trivial))
end seq
section ev
variable {P : Program} {r : Option Nat} {H : List AObj} {ρ : Operand → AV}
variable {d : Option Tmp} {t : TypeId} {p : String} {af : Array Edge} {g : Option (Nat × Bool)}
end ev
theorem mapPut_keys (v : Value) : ∀ (l : List Int) (n : Int), (mapPut (l.map fun k => (k, v)) n v) = ((if n ∈ l then l else l ++ [n]).map fun k => (k, v)) := by
  intro l n
  unfold mapPut
  have h : (l.map fun k => ((k, v) : Int × Value)).any (fun x => decide (x.1 = n)) = decide (n ∈ l) := by
    rw [Bool.eq_iff_iff]; simp [List.any_eq_true]
  rw [h]
  by_cases hn : n ∈ l
  · simp only [hn, decide_true, if_true, List.map_map]
    refine List.map_congr_left fun k _ => ?_
    simp only [Function.comp]
    split
    · rename_i e; rw [e]
    · rfl
  · simp [hn]
section pan
variable {c : Ctx} {ops : Array Oper} {Q : AExit → St → Prop} {rest : List Oper} {s : St} {i : Nat}
variable {d : Option Tmp} {t : TypeId} {p : String} {af : Array Edge}
theorem sq_panic {x : Operand} {xt : TypeId} {a : AV} (hx : Less (s.op x) (.ifc xt a)) (k : Q (.panic (.ifc xt a)) s) : SeqWP c ops Q i (⟨d, .panic x, t, p, af, none⟩ :: rest) s := by
  refine sq_op fun e ac hs next hn => ?_
  have hxr := hx e _ (hs.op x)
  have hxr' := hxr
  rw [Rep] at hxr
  obtain ⟨u, hu, hr⟩ := hxr
  refine ⟨about_FW _ _ _ _ _, ?_⟩
  show Oper.uponIn (FW c.r) 0 c.P _ ac next (lift c Q) ((Oper.semAt c.r ac.eval ⟨d, .panic x, t, p, af, none⟩).run c.P e.w)
  rw [semAt_of (by intro c h; cases h)]
  have : (execOp ac.eval ⟨d, .panic x, t, p, af, none⟩).run c.P e.w = .halt (.panic (.iface xt u)) e.w := by
    simp [execOp, Instr.panic, hu, goPanic, Sem.run]
  rw [this]
  exact ⟨.panic (.ifc xt a), s, e, k, rfl, hs, .iface xt u, rfl, hu ▸ hxr'⟩
end pan
end Go.Ab
namespace Go.Ab
variable [Tabs]
section ev
variable {P : Program} {r : Option Nat} {H : List AObj} {ρ : Operand → AV}
variable {d : Option Tmp} {t : TypeId} {p : String} {af : Array Edge} {g : Option (Nat × Bool)}
theorem ev_slice_msl {xt et : TypeId} {sz j off len cap hi : Nat} {x q : Operand} (ht : slElem P xt = some (et, sz)) (hx : Less (ρ x) (.msl j off len cap)) (hq : Less (ρ q) (.raw (.int .i64 (hi : Int)))) (h2 : hi ≤ cap) :
    Ev P r ⟨d, .slice xt x none (some q) none, t, p, af, g⟩ H ρ (.msl j off hi cap) :=
  Ev.pure (by intro c h; cases h) fun e ρc ok hE hs => by
    obtain ⟨k1, ti, k2, rfl⟩ := slElem_und ht
    have := hx e _ (hs x (by simp [Op.operands]))
    rw [Rep] at this
    obtain ⟨a1, a2, b, hb, hv, hle⟩ := this
    have hhi := rep_raw hq (hs q (by simp [Op.operands]))
    have hbd : (Instr.sliceBounds true len cap (Option.map ρc none) (some (ρc q)) none).run P e.w = .ok (0, hi, cap) e.w := by
      simp [Instr.sliceBounds, Instr.sliceBound, hhi, asIntOf, h2]
    refine ⟨.slice (some ⟨b, off, none⟩) hi cap, ?_, ?_⟩
    · simp only [Option.map_none] at hbd
      simp [execOp, Instr.sliceAt, Instr.slice, run_und k1, hv, hbd, run_size k2, Addr.add]
    · rw [Rep]; exact ⟨a1, a2, b, hb, rfl, h2⟩
def AV.flat : AV → Bool
  | .any | .raw _ => true
  | .agg l | .tup l => l.all fun a => match a with | .raw _ => true | _ => false
  | .ifc _ (.raw _) => true
  | _ => false
theorem repL_raws {e e' : Env} : ∀ {l : List AV} {vs : List Value}, (l.all fun a => match a with | .raw _ => true | _ => false) = true → RepL e l vs → RepL e' l vs
  | [], _, _, k => by rw [RepL] at k ⊢; exact k
  | a :: l, _, h, k => by
    rw [RepL] at k; obtain ⟨v, rest, rfl, k1, k2⟩ := k
    simp only [List.all_cons, Bool.and_eq_true] at h
    cases a <;> simp at h
    rw [Rep] at k1; subst k1
    exact RepL.cons (by rw [Rep]) (repL_raws (by simpa using h) k2)
theorem rep_flat {e e' : Env} : ∀ {a : AV} {v : Value}, a.flat = true → Rep e a v → Rep e' a v
  | .any, _, _, _ => by rw [Rep]; trivial
  | .raw _, _, _, k => by rw [Rep] at k ⊢; exact k
  | .agg l, _, h, k => by rw [Rep] at k ⊢; obtain ⟨cs, h1, h2, h3⟩ := k; exact ⟨cs, h1, repL_raws h h2, h3⟩
  | .tup l, _, h, k => by rw [Rep] at k ⊢; obtain ⟨cs, h1, h2⟩ := k; exact ⟨cs, h1, repL_raws h h2⟩
  | .ifc t (.raw u), _, _, k => by rw [Rep] at k ⊢; obtain ⟨x, h1, h2⟩ := k; exact ⟨x, h1, by rw [Rep] at h2 ⊢; exact h2⟩
theorem slotsOf_fz {j n cap sz : Nat} {es : List (List AV)} : ∀ {l' l : List AV} (k : Nat), FzL j n cap sz es l' l → ∀ q ∈ slotsOf k l, Fz j n cap sz es (sget (slotsOf k l') q.1) q.2
  | _, _, k, .nil, q, hq => by cases hq
  | _, _, k, .cons h hl, q, hq => by
    rcases List.mem_cons.1 hq with e | e
    · subst e; simp only [slotsOf, sget]; simpa using h
    · have ih := slotsOf_fz (k + 1) hl q e
      have hk : k + 1 ≤ q.1 := by
        have : ∀ {l : List AV} {k : Nat} (q : Nat × AV), q ∈ slotsOf k l → k ≤ q.1 := by
          intro l
          induction l with
          | nil => intro k q h; cases h
          | cons a l ih => intro k q h; rcases List.mem_cons.1 h with e | e
                           · subst e; exact Nat.le_refl _
                           · have := ih q e; omega
        exact this q e
      simp only [slotsOf, sget]
      have : (k == q.1) = false := by simp; omega
      rw [this]; exact ih
end ev
section seq
variable {c : Ctx} {ops : Array Oper} {Q : AExit → St → Prop} {rest : List Oper} {s : St} {i : Nat}
variable {d : Option Tmp} {t : TypeId} {p : String} {af : Array Edge}
theorem sq_append_m {x y : Operand} {st xt et et' : TypeId} {j n cap sz bytes : Nat} {es xs : List (List AV)} {rs : List AV} (hd : dOK c.nt d = true)
    (hf : SlFact c.P st et sz bytes) (hk : c.P.underlying xt = some (.slice et')) (hx : Less (s.op x) (.msl j 0 n cap)) (hj : s.H[j]? = some (.cells (es.flatten ++ rs))) (hn : es.length = n) (hsz : ∀ q ∈ es, q.length = sz)
    (hrs : rs.length = (cap - n) * sz) (hy : Less (s.op y) (.sl sz xs))
    (hb : (n + xs.length) * bytes ≤ 140737488355328) (h63 : n + xs.length ≤ 9223372036854775807)
    (k1 : n + xs.length ≤ cap → SeqWP c ops Q (i + 1) rest (St.put { s with H := s.H.set j (.cells ((es ++ xs).flatten ++ rs.drop (xs.length * sz))) } d (.msl j 0 (n + xs.length) cap)))
    (k2 : ∀ cap', n + xs.length ≤ cap' → SeqWP c ops Q (i + 1) rest (St.put { s with H := s.H ++ [.cells ((es ++ xs).flatten ++ List.replicate ((cap' - (n + xs.length)) * sz) .any)] } d (.msl s.H.length 0 (n + xs.length) cap'))) :
    SeqWP c ops Q i (⟨d, .call ⟨.builtin .append, #[x, y], #[st, xt]⟩, t, p, af, none⟩ :: rest) s := by
  refine sq_op fun e ac hs next hn' => ?_
  have hu := hx e _ (hs.op x)
  have hv := hy e _ (hs.op y)
  rw [Rep] at hu
  obtain ⟨a1, a2, b, hbm, hv1, hle⟩ := hu
  have hxsz : ∀ q ∈ xs, q.length = sz := by rw [Rep] at hv; obtain ⟨_, _, _, _, _, _, _, h, _⟩ := hv; exact h
  obtain ⟨ti, z, t1, t2, rfl, rfl, t5, t6, t7⟩ := hf.ex
  obtain ⟨news, hsrc, hnw⟩ := src_of hk hv
  have hnl : news.length = xs.length * ti.size := hsrc.newsLen
  obtain ⟨b', cs, ct, q1, q2, q3, q4, q5⟩ := hs.ok.objs j _ (by rw [hs.H]; exact hj)
  rw [hbm] at q1; cases q1
  have hfl : es.flatten.length = n * ti.size := by rw [flatten_len hsz, hn]
  have hcl : cs.toList.length = n * ti.size + (cap - n) * ti.size := by rw [q4.length, List.length_append, hfl, hrs]
  refine ⟨about_FW _ _ _ _ _, ?_⟩
  show Oper.uponIn (FW c.r) 0 c.P _ ac next (lift c Q) (((Oper.semAt c.r ac.eval ⟨d, .call ⟨.builtin .append, #[x, y], #[st, xt]⟩, t, p, af, none⟩)).run c.P e.w)
  rw [semAt_of (by intro c h; cases h)]
  have hex : (execOp ac.eval ⟨d, .call ⟨.builtin .append, #[x, y], #[st, xt]⟩, t, p, af, none⟩).run c.P e.w = ((Builtin.append_ #[st, xt] t #[.slice (some ⟨b, 0, none⟩) n cap, ac.eval y]).run c.P e.w).andThen fun v w'' => .ok (.value v) w'' := by
    simp [execOp, resolve, invoke, builtin, hv1]
  rw [hex]
  by_cases hfit : n + xs.length ≤ cap
  · have hroom : n * ti.size + news.length ≤ cs.size := by
      have h1 : xs.length * ti.size ≤ (cap - n) * ti.size := Nat.mul_le_mul_right _ (by omega)
      rw [← Array.length_toList]; omega
    have hst := run_storeCells_at (P := c.P) b (n * ti.size) ct news 0 cs e.w q3 (by simpa using hroom) hsrc.one
    simp only [Nat.add_zero] at hst
    generalize hcs' : (cs.toList.take (n * ti.size) ++ news ++ cs.toList.drop (n * ti.size + news.length)).toArray = cs' at hst
    have hrun : (Builtin.append_ #[st, xt] t #[.slice (some ⟨b, 0, none⟩) n cap, ac.eval y]).run c.P e.w = .ok (.slice (some ⟨b, 0, none⟩) (n + xs.length) cap) (e.w.setRow b cs') := by
      rcases hsrc.kind with ⟨e', he'⟩ | he' <;> simp [Builtin.append_, run_und t1, run_und hk, run_size t2, hsrc.len, hfit, hsrc.cells, Addr.add_lit, hst]
    have hsp := RepL.splice q4 hnw (n * ti.size)
    have htl : (es.flatten ++ rs).take (n * ti.size) = es.flatten := by rw [← hfl, List.take_left']; rfl
    have hxl : xs.flatten.length = xs.length * ti.size := flatten_len hxsz
    have hdl : (es.flatten ++ rs).drop (n * ti.size + xs.flatten.length) = rs.drop (xs.length * ti.size) := by
      rw [← hfl, List.drop_append, hxl]; simp
    rw [htl, hdl, ← List.flatten_append] at hsp
    have hsim := hs.setObj (i := j) (b := b) (l := (es ++ xs).flatten ++ rs.drop (xs.length * ti.size)) (cs := cs') hj hbm q2 q3 (by rw [← hcs']; simpa using hsp) (by
      intro q hq
      rw [← hcs'] at hq
      simp only [List.mem_append] at hq
      rcases hq with (h | h) | h
      · exact q5 q (List.mem_of_mem_take h)
      · exact hsrc.one q h
      · exact q5 q (List.mem_of_mem_drop h))
    rw [hrun]
    have hw : e.w.setRow b cs' = (e.setObj j b ((es ++ xs).flatten ++ rs.drop (xs.length * ti.size)) cs').w := rfl
    rw [hw]
    refine hn' _ _ _ (k1 hfit) (hsim.put hd ?_)
    rw [Rep]
    exact ⟨by simpa [Env.setObj] using a1, by rw [Env.setObj_T (by rw [hs.H]; exact hj)]; exact a2, b, hbm, rfl, hfit⟩
  · have hcap := nextslicecap_le (show cap < n + xs.length by omega)
    have hold : (Builtin.firstCells ti.size n (.slice (some ⟨b, 0, none⟩) n cap)).run c.P e.w.drew = .ok (cs.toList.take (n * ti.size)).toArray e.w.drew := by
      refine run_firstCells_some e.w.drew ti.size n ⟨b, 0, none⟩ n cap (cs.toList.take (n * ti.size)) (by rw [List.length_take]; omega) (fun m u hm => ?_)
      have hml : m < n * ti.size := by have := lt_of_get? hm; rw [List.length_take] at this; omega
      rw [List.getElem?_take_of_lt hml] at hm
      rw [Addr.add_lit]
      show e.w.cell? _ = _
      unfold World.cell?; simp only [q3]; simpa using hm
    have hrun := run_append_grow_src (P := c.P) e.w st xt t et ti z t1 t2 t5 (some ⟨b, 0, none⟩) n cap _ hold (ac.eval y) xs.length news hsrc (by omega) (by omega) (by
      have := Nat.mul_le_mul_right ti.bytes hcap
      have h2 : 2 * (n + xs.length) * ti.bytes = 2 * ((n + xs.length) * ti.bytes) := by rw [Nat.mul_assoc]
      omega)
    have hle := grownCap_le e.w (n + xs.length) cap et
    generalize grownCap e.w (n + xs.length) cap et = cap' at hrun hle
    have hs1 := hs.ext (EnvOK.drew hs.ok)
    have leD := (EnvOK.drew hs.ok).le hs.ok
    have hzl : (Builtin.zeroCells z.cells (cap' - (n + xs.length))).toList.length = (cap' - (n + xs.length)) * ti.size := by
      simp only [Builtin.zeroCells, Array.toList_map, Array.toList_range, List.length_map, List.length_range, t7]
    have htk : RepL e es.flatten (cs.toList.take (n * ti.size)) := by
      have := q4.take (n * ti.size)
      have htl : (es.flatten ++ rs).take (n * ti.size) = es.flatten := by rw [← hfl, List.take_left']; rfl
      rwa [htl] at this
    have hrl : RepL { e with w := { e.w with drawn := e.w.drawn + 1 } } ((es ++ xs).flatten ++ List.replicate ((cap' - (n + xs.length)) * ti.size) .any) (((cs.toList.take (n * ti.size) ++ news).toArray ++ Builtin.zeroCells z.cells (cap' - (n + xs.length)))).toList := by
      rw [Array.toList_append, List.flatten_append]
      refine RepL.append ((RepL.mono leD _ htk).append (RepL.mono leD _ hnw)) ?_
      rw [← hzl]; exact RepL.anys _
    have hcell : ∀ q ∈ (((cs.toList.take (n * ti.size) ++ news).toArray ++ Builtin.zeroCells z.cells (cap' - (n + xs.length)))).toList, isCell q = true := by
      intro q hq
      rw [Array.toList_append] at hq
      rcases List.mem_append.1 hq with h | h
      · rcases List.mem_append.1 h with h | h
        · exact q5 q (List.mem_of_mem_take h)
        · exact hsrc.one q h
      · exact zeroCells_cell t6 _ q h
    have hs2 := hs1.push (push_cells (t := et) hs1.ok hrl hcell)
    rw [hrun]
    refine hn' _ _ _ (k2 cap' hle) (hs2.put hd ?_)
    rw [Rep]
    refine ⟨?_, ?_, e.w.heap.size, ?_, rfl, hle⟩
    · simp [Env.push, hs.H]
    · simp [Env.T, Env.push, hs.H, tokOf]
    · simp [Env.push, hs.H]
end seq
end Go.Ab
namespace Go.Ab
variable [Tabs]
def takeMarks : List AObj → List ADef → Option (List AObj)
  | H, [] => some H
  | H, .mark i :: l => match H[i]? with
    | some (.raw (.deferred (some []))) => takeMarks (H.set i (.raw (.deferred none))) l
    | _ => none
  | _, .call _ _ _ :: _ => none
theorem leaves_marks {P : Program} {fn : Func} {tmps : Array Value} {R : Ending → World → Prop} {u : FrameMode} (hu : u ≠ .run) : ∀ {df : List ADef} {ds : List Deferred} {e : Env} {H' : List AObj}, DRepL e df ds → EnvOK e → takeMarks e.H df = some H' →
    ∃ e', e'.H = H' ∧ EnvOK e' ∧ Fr e e' ∧ (LeavesInM (FW none) 0 P fn tmps R [] u e'.w → LeavesInM (FW none) 0 P fn tmps R ds u e.w)
  | [], ds, e, H', hd, ok, h => by
    simp only [takeMarks, Option.some.injEq] at h
    have := hd.of_nil rfl
    subst this
    exact ⟨e, h, ok, Fr.refl e, fun k => k⟩
  | .call _ _ _ :: _, _, _, _, _, _, h => by simp [takeMarks] at h
  | .mark i :: l, ds, e, H', hd, ok, h => by
    obtain ⟨d, rest, rfl, ⟨d1, d2, b, hb, rfl⟩, hr⟩ := hd
    simp only [takeMarks] at h
    split at h
    · rename_i hi
      obtain ⟨b', hb', hh, _⟩ := ok.objs i _ hi
      rw [hb] at hb'; cases hb'
      obtain ⟨ok1, fr1⟩ := setRaw_all (o := .deferred none) ok hi hb rfl rfl
      obtain ⟨e', k1, k2, k3, k4⟩ := leaves_marks (fn := fn) (tmps := tmps) (R := R) (P := P) hu (e := e.setRaw i b (.deferred none)) (hr.mono fr1.le) ok1 h
      exact ⟨e', k1, k2, fr1.trans k3, fun k => ⟨hu, .inl ⟨b, _, rfl, run_takeDeferred hh, k4 k⟩⟩⟩
    · cases h
def retQM (P : Program) (rs : List ResultVar) (R : ARes → List AObj → Prop) : AExit → St → Prop
  | .normal, s | .ret, s => ∃ H' v, takeMarks s.H s.df = some H' ∧ resAV P { s with H := H' } rs = some v ∧ R (.ret v) H'
  | .panic v, s => ∃ H', takeMarks s.H s.df = some H' ∧ R (.pan v) H'
  | _, _ => False
def ACallE (es : Env) (P : Program) (f : FuncId) (args : List AV) (H : List AObj) (R : ARes → List AObj → Prop) : Prop :=
  ∀ e (vs : Array Value), es.Le e → EnvOK e → e.H = H → RepL e args vs.toList →
    CallsIn (FW none) 0 P f vs e.w fun x w' => ∃ ax e', e'.w = w' ∧ EnvOK e' ∧ Fr e e' ∧ R ax e'.H ∧ endRep e' ax x
theorem acallE_of_marks {es : Env} {P : Program} {f : FuncId} {fn : Func} {code : Code} {args : List AV} {H : List AObj} {R : ARes → List AObj → Prop} {rs : List ResultVar}
    (hf : P.funcs[f]? = some fn) (hb : fn.body = some code) (hrs : fn.results = rs.toArray) (hn : args.length ≤ fn.ntmps)
    (h : ∀ e0, es.Le e0 → e0.H = H → AWP ⟨P, none, fn.ntmps, e0⟩ code (retQM P rs R) ⟨slotsOf 0 args, H, []⟩) : ACallE es P f args H R := by
  intro e vs hle ok hH hs
  refine callsIn_of_wp_marks hf hb trivial ?_
  have hlen := hs.length
  have hsz : vs.size = args.length := by simpa using hlen
  have hsim : Sim ⟨P, none, fn.ntmps, e⟩ ⟨slotsOf 0 args, H, []⟩ e { tmps := vs ++ Array.replicate (fn.ntmps - vs.size) undef, defers := [] } := by
    refine ⟨by simp; omega, fun t => ?_, DRepL.nil, hH, ok, Fr.refl e⟩
    rw [get_slotsOf]
    simp only [Nat.zero_le, if_true, Nat.sub_zero]
    cases ha : args[t]? with
    | none => simp only [Option.getD_none]; rw [Rep]; trivial
    | some a =>
      obtain ⟨u, h1, h2⟩ := hs.get t a ha
      have ht : t < vs.size := by have := (List.getElem?_eq_some_iff.1 h1).1; simpa using this
      have : (vs ++ Array.replicate (fn.ntmps - vs.size) undef).getD t undef = u := by
        rw [Array.getD_eq_getD_getElem?, Array.getElem?_append_left ht]
        have : vs[t]? = some u := by simpa using h1
        rw [this]; rfl
      rw [this]; exact h2
  refine wpIn_mono (h e hle hH e _ hsim) ?_
  rintro x a w ⟨ax, s, e1, hq, rfl, hs1, hx⟩
  have hdr := hs1.defers
  have fin : (∃ H' v, takeMarks s.H s.df = some H' ∧ resAV P { s with H := H' } rs = some v ∧ R (.ret v) H') →
      LeavesInM (FW none) 0 P fn a.tmps (fun x w' => ∃ ax e', e'.w = w' ∧ EnvOK e' ∧ Fr e e' ∧ R ax e'.H ∧ endRep e' ax x) a.defers .returning e1.w := by
    rintro ⟨H', v, hm, hv, hR⟩
    obtain ⟨e', k1, k2, k3, k4⟩ := leaves_marks (P := P) (fn := fn) (tmps := a.tmps) (R := fun x w' => ∃ ax e', e'.w = w' ∧ EnvOK e' ∧ Fr e e' ∧ R ax e'.H ∧ endRep e' ax x) (u := .returning) (by simp) hdr hs1.ok (by rw [hs1.H]; exact hm)
    have hs2 : Sim ⟨P, none, fn.ntmps, e⟩ { s with H := H' } e' a := ⟨hs1.size, fun t => Rep.mono k3.le _ (hs1.slots t), hs1.defers.mono k3.le, k1, k2, hs1.fr.trans k3⟩
    obtain ⟨u, h1, h2⟩ := run_results hs2 hrs hv
    exact k4 ⟨u, h1, .ret v, e', rfl, k2, hs1.fr.trans k3, by rw [k1]; exact hR, u, rfl, h2⟩
  cases ax with
  | normal => obtain rfl : x = .normal := hx; exact fin hq
  | ret => obtain rfl : x = .ret := hx; exact fin hq
  | panic v =>
    obtain ⟨u, rfl, hu⟩ := hx; obtain ⟨H', hm, hR⟩ := hq
    obtain ⟨e', k1, k2, k3, k4⟩ := leaves_marks (P := P) (fn := fn) (tmps := a.tmps) (R := fun x w' => ∃ ax e', e'.w = w' ∧ EnvOK e' ∧ Fr e e' ∧ R ax e'.H ∧ endRep e' ax x) (u := .panicking [{ v := u, recovered := false }]) (by simp) hdr hs1.ok (by rw [hs1.H]; exact hm)
    exact k4 ⟨.pan v, e', rfl, k2, hs1.fr.trans k3, by rw [k1]; exact hR, u, rfl, Rep.mono k3.le v hu⟩
  | exit _ => exact hq.elim
  | goto _ => exact hq.elim
theorem acall_of_marks {P : Program} {f : FuncId} {fn : Func} {code : Code} {args : List AV} {H : List AObj} {R : ARes → List AObj → Prop} {rs : List ResultVar}
    (hf : P.funcs[f]? = some fn) (hb : fn.body = some code) (hrs : fn.results = rs.toArray) (hn : args.length ≤ fn.ntmps)
    (h : ∀ e0, e0.H = H → AWP ⟨P, none, fn.ntmps, e0⟩ code (retQM P rs R) ⟨slotsOf 0 args, H, []⟩) : ACall P f args H R :=
  fun e vs => acallE_of_marks (es := e) hf hb hrs hn (fun e0 _ => h e0) e vs (.refl e)
theorem apure_of_marks {P : Program} {f : FuncId} {fn : Func} {code : Code} {args : List AV} {res : AV} {rs : List ResultVar}
    (hf : P.funcs[f]? = some fn) (hb : fn.body = some code) (hrs : fn.results = rs.toArray) (hn : args.length ≤ fn.ntmps) (hp : AV.pureL args = true) (hr : res.pureB = true)
    (h : ∀ e0, e0.H = [] → AWP ⟨P, none, fn.ntmps, e0⟩ code (retQM P rs fun x _ => ∃ v, x = .ret v ∧ Less v res) ⟨slotsOf 0 args, [], []⟩) : APure P f args res :=
  APure.of_acall hp hr (acall_of_marks hf hb hrs hn h)
theorem retQM_pure {P : Program} {rs : List ResultVar} {res v : AV} {s : St} {H' : List AObj} (hm : takeMarks s.H s.df = some H') (hv : resAV P { s with H := H' } rs = some v) (hl : Less v res) :
    retQM P rs (fun x _ => ∃ v, x = .ret v ∧ Less v res) .ret s := ⟨H', v, hm, hv, v, rfl, hl⟩
section seq
variable {c : Ctx} {ops : Array Oper} {Q : AExit → St → Prop} {rest : List Oper} {s : St} {i : Nat}
variable {d : Option Tmp} {t : TypeId} {p : String} {af : Array Edge}
theorem sq_callE {es : Env} {x : Operand} {as : Array Operand} {ats : Array TypeId} {f : FuncId} {first cap args : List AV} {R : ARes → List AObj → Prop} (hes : es.Le c.e0)
    (hd : dOK c.nt d = true) (he : Ent c.P f) (hx : Less (s.op x) (.fn (.func f) first cap))
    (ha : LessL (first ++ as.toList.map s.op ++ cap) args) (hc : ACallE es c.P f args s.H R)
    (k : ∀ v H', R (.ret v) H' → SeqWP c ops Q (i + 1) rest (St.put { s with H := H' } d v)) (kp : ∀ v H', R (.pan v) H' → Q (.panic v) { s with H := H' }) : SeqWP c ops Q i (⟨d, .call ⟨.value x, as, ats⟩, t, p, af, none⟩ :: rest) s := by
  refine sq_op fun e a hs next hn => ?_
  have hxr := hx e _ (hs.op x)
  rw [Rep] at hxr
  obtain ⟨fv, cv, hfv, h1, h2⟩ := hxr
  have h3 : RepL e (as.toList.map s.op) (as.toList.map a.eval) := RepL.mapped fun y _ => hs.op y
  refine ⟨about_FW _ _ _ _ _, ?_⟩
  show Oper.uponIn (FW c.r) 0 c.P _ a next (lift c Q) (((Oper.semAt c.r a.eval ⟨d, .call ⟨.value x, as, ats⟩, t, p, af, none⟩)).run c.P e.w)
  rw [semAt_of (by intro c h; cases h), run_callop hfv he]
  refine ⟨fun h => by simp [FW] at h, ?_⟩
  have := hc e (fv ++ as.map a.eval ++ cv) (hes.trans hs.fr.le) hs.ok hs.H (ha.rep (by simpa using (h1.append h3).append h2))
  refine CallsIn.mono (F := FW c.r) (n := 0) this ?_
  rintro x w' ⟨ax, e', rfl, ok', fr, hR, hend⟩
  cases ax with
  | ret v =>
    obtain ⟨u, rfl, hu⟩ := hend
    exact hn _ e' _ (k v e'.H hR) ((hs.after ok' fr).put hd hu)
  | pan v =>
    obtain ⟨u, rfl, hu⟩ := hend
    exact ⟨.panic v, _, e', kp v e'.H hR, rfl, hs.after ok' fr, u, rfl, hu⟩
theorem sq_yield {es : Env} {l : Nat} {x y : Operand} {ats : Array TypeId} {a : AV} {b : Bool} {H' : List AObj} (hes : es.Le c.e0) (hd : dOK c.nt d = true) (hx : Less (s.op x) (.fn (.yield l) [] [])) (hy : Less (s.op y) a)
    (hc : AYieldAt es c.P l a s.H b H') (k : SeqWP c ops Q (i + 1) rest (St.put { s with H := H' } d (.raw (.bool b)))) : SeqWP c ops Q i (⟨d, .call ⟨.value x, #[y], ats⟩, t, p, af, none⟩ :: rest) s := by
  refine sq_op fun e ac hs next hn => ?_
  have hxr := hx e _ (hs.op x)
  rw [Rep] at hxr
  obtain ⟨fv, cv, hfv, h1, h2⟩ := hxr
  rw [RepL] at h1 h2
  have h1 : fv = #[] := by simpa using h1
  have h2 : cv = #[] := by simpa using h2
  subst h1; subst h2
  obtain ⟨fn, tmps, assign, body, hrun, hround⟩ := hc e (ac.eval y) (hes.trans hs.fr.le) hs.ok hs.H (hy _ _ (hs.op y))
  refine ⟨about_FW _ _ _ _ _, ?_⟩
  show Oper.uponIn (FW c.r) 0 c.P _ ac next (lift c Q) (((Oper.semAt c.r ac.eval ⟨d, .call ⟨.value x, #[y], ats⟩, t, p, af, none⟩)).run c.P e.w)
  rw [semAt_of (by intro c h; cases h)]
  have hex : (execOp ac.eval ⟨d, .call ⟨.value x, #[y], ats⟩, t, p, af, none⟩).run c.P e.w = (Instr.yield l #[ac.eval y]).run c.P e.w := by
    simp [execOp, resolve, hfv, Deferred.ofValue, invoke]
  rw [hex, hrun]
  refine ⟨fun h => by simp [FW] at h, ?_⟩
  refine RoundIn.mono (F := FW none) (n := 0) hround ?_
  rintro ex w' ⟨rfl, e', rfl, ok', fr, hH'⟩
  have := hs.after ok' fr
  rw [hH'] at this
  exact hn _ e' _ k (this.put hd (by rw [Rep]))
theorem sq_defer {x : Operand} {as : Array Operand} {ats : Array TypeId} {f : Fn} {first cap : List AV} (hr : c.r = none) (hd : dOK c.nt d = true) (hx : Less (s.op x) (.fn f first cap))
    (k : SeqWP c ops Q (i + 1) rest (St.put { s with df := .call f (first ++ as.toList.map s.op) cap :: s.df } d .any)) : SeqWP c ops Q i (⟨d, .defer ⟨.value x, as, ats⟩, t, p, af, none⟩ :: rest) s := by
  refine sq_op fun e ac hs next hn => ?_
  have hxr := hx e _ (hs.op x)
  rw [Rep] at hxr
  obtain ⟨fv, cv, hfv, h1, h2⟩ := hxr
  have h3 : RepL e (as.toList.map s.op) (as.toList.map ac.eval) := RepL.mapped fun y _ => hs.op y
  refine ⟨about_FW _ _ _ _ _, ?_⟩
  show Oper.uponIn (FW c.r) 0 c.P _ ac next (lift c Q) (((Oper.semAt c.r ac.eval ⟨d, .defer ⟨.value x, as, ats⟩, t, p, af, none⟩)).run c.P e.w)
  rw [hr, Oper.semAt_none]
  have hex : (execOp ac.eval ⟨d, .defer ⟨.value x, as, ats⟩, t, p, af, none⟩).run c.P e.w = .ok (.defer { target := .fn f cv, args := fv ++ as.map ac.eval }) e.w := by
    simp [execOp, resolve, hfv, Deferred.ofValue]
  rw [hex]
  have hs' : Sim c { s with df := .call f (first ++ as.toList.map s.op) cap :: s.df } e { ac with defers := { target := .fn f cv, args := fv ++ as.map ac.eval } :: ac.defers } :=
    ⟨hs.size, hs.slots, DRepL.cons ⟨_, _, rfl, by simpa using h1.append h3, h2⟩ hs.defers, hs.H, hs.ok, hs.fr⟩
  exact hn _ e _ k (hs'.put hd (by rw [Rep]; trivial))
end seq
def modeIs (e : Env) : Option AV → FrameMode → Prop
  | none, u => u = .returning
  | some a, u => ∃ v, u = .panicking [{ v, recovered := false }] ∧ Rep e a v
def ADefer (P : Program) (f : FuncId) (caps : List AV) (H : List AObj) (rv : Option AV) (R : List AObj → Prop) : Prop :=
  ∀ e (vs : Array Value) u, EnvOK e → e.H = H → RepL e caps vs.toList → modeIs e rv u →
    CallsDIn (FW none) 0 P f vs u e.w fun x u' w' => ∃ v e', x = .returned v ∧ settle u' = .returning ∧ e'.w = w' ∧ EnvOK e' ∧ Fr e e' ∧ R e'.H
theorem adefer_of {P : Program} {f : FuncId} {fn : Func} {rest : Code} {id : Nat} {d : Tmp} {t : TypeId} {p : String} {caps : List AV} {H : List AObj} {rv : Option AV} {R : List AObj → Prop} {ats : Array TypeId}
    (hf : P.funcs[f]? = some fn) (hb : fn.body = some (.seq (.region id #[⟨some d, .call ⟨.builtin .recover, #[], ats⟩, t, p, #[], none⟩] false) rest)) (hrs : fn.results = #[]) (hn : caps.length ≤ fn.ntmps) (hd : Nat.blt d fn.ntmps = true)
    (h : ∀ e0, e0.H = H → AWP ⟨P, none, fn.ntmps, e0⟩ rest (fun ax s' => (ax = .normal ∨ ax = .ret) ∧ s'.df = [] ∧ R s'.H) ⟨(d, rv.getD (.raw .nilIface)) :: slotsOf 0 caps, H, []⟩) : ADefer P f caps H rv R := by
  intro e vs u ok hH hs hu
  refine callsDIn_of_wpSIn hf hb trivial fun c₀ cs hm => ?_
  have hlen := hs.length
  have hsz : vs.size = caps.length := by simpa using hlen
  have hsim : Sim ⟨P, none, fn.ntmps, e⟩ ⟨slotsOf 0 caps, H, []⟩ e { tmps := vs ++ Array.replicate (fn.ntmps - vs.size) undef, defers := [] } := by
    refine ⟨by simp; omega, fun t => ?_, DRepL.nil, hH, ok, Fr.refl e⟩
    rw [get_slotsOf]
    simp only [Nat.zero_le, if_true, Nat.sub_zero]
    cases ha : caps[t]? with
    | none => simp only [Option.getD_none]; rw [Rep]; trivial
    | some a =>
      obtain ⟨u, h1, h2⟩ := hs.get t a ha
      have ht : t < vs.size := by have := (List.getElem?_eq_some_iff.1 h1).1; simpa using this
      have : (vs ++ Array.replicate (fn.ntmps - vs.size) undef).getD t undef = u := by
        rw [Array.getD_eq_getD_getElem?, Array.getElem?_append_left ht]
        have : vs[t]? = some u := by simpa using h1
        rw [this]; rfl
      rw [this]; exact h2
  generalize ({ tmps := vs ++ Array.replicate (fn.ntmps - vs.size) undef, defers := [] } : Act) = a at hsim ⊢
  obtain ⟨u', v, hrec, hset, hv⟩ : ∃ u' v, (match recoverD (c₀ :: cs) with | some (v', cs') => v' = v ∧ cs' = { c₀ with mode := u' } :: cs | none => v = .nilIface ∧ c₀ = { c₀ with mode := u' }) ∧ settle u' = .returning ∧ Rep e (rv.getD (.raw .nilIface)) v := by
    cases rv with
    | none =>
      have hu : u = .returning := hu
      subst hu
      refine ⟨.returning, .nilIface, ?_, rfl, by simp only [Option.getD_none]; rw [Rep]⟩
      have : recoverD (c₀ :: cs) = none := by simp [recoverD, hm]
      rw [this]
      exact ⟨rfl, by rw [← hm]⟩
    | some q =>
      obtain ⟨v, hu, hv⟩ := hu
      subst hu
      refine ⟨.panicking [{ v, recovered := true }], v, ?_, rfl, hv⟩
      have : recoverD (c₀ :: cs) = some (v, { c₀ with mode := .panicking [{ v, recovered := true }] } :: cs) := by simp [recoverD, hm]
      rw [this]; exact ⟨rfl, rfl⟩
  have hsim1 := hsim.put (d := some d) hd hv
  have hrest := h e hH e _ hsim1
  have hex : (execOp a.eval ⟨some d, .call ⟨.builtin .recover, #[], ats⟩, t, p, #[], none⟩).run P e.w = .ok .recover e.w := by
    simp [execOp, resolve, invoke, builtin]
  have fin : rest.wpSIn (FW none) 0 P (bodyPostS P fn c₀ cs fun x u' w' => ∃ v e', x = .returned v ∧ settle u' = .returning ∧ e'.w = w' ∧ EnvOK e' ∧ Fr e e' ∧ R e'.H) (a.put (some d) v) ({ c₀ with mode := u' } :: cs) e.w := by
    refine wpSIn_of_wpIn rfl (wpIn_mono hrest ?_)
    rintro ex a' w ⟨ax, s', e', ⟨hax, hdf, hR⟩, rfl, hs', hex'⟩
    have hres : (results fn a'.tmps).run P e'.w = .ok (.tuple #[]) e'.w := by rw [results_eq, hrs]; simp
    have hpost : a'.defers = [] ∧ ∃ u'', ({ c₀ with mode := u' } :: cs : List Frame) = { c₀ with mode := u'' } :: cs ∧ ∃ v, (results fn a'.tmps).run P e'.w = .ok v e'.w ∧ ∃ v' e'', Ending.returned v = .returned v' ∧ settle u'' = .returning ∧ e''.w = e'.w ∧ EnvOK e'' ∧ Fr e e'' ∧ R e''.H :=
      ⟨hs'.defers.of_nil hdf, u', rfl, _, hres, _, e', rfl, hset, rfl, hs'.ok, hs'.fr, by rw [hs'.H]; exact hR⟩
    rcases hax with rfl | rfl
    · obtain rfl : ex = .normal := hex'; exact hpost
    · obtain rfl : ex = .ret := hex'; exact hpost
  refine wpSIn_seq (wpSIn_region ?_)
  show wpOpsSIn (FW none) 0 P _ _ [0] a (c₀ :: cs) e.w
  generalize hops : (#[⟨some d, .call ⟨.builtin .recover, #[], ats⟩, t, p, #[], none⟩] : Array Oper) = ops
  have hget : ops[0]? = some ⟨some d, .call ⟨.builtin .recover, #[], ats⟩, t, p, #[], none⟩ := by rw [← hops]; rfl
  have hw : Region.wanted (⟨some d, .call ⟨.builtin .recover, #[], ats⟩, t, p, #[], none⟩ : Oper) (yielded ops a.tmps) = true := rfl
  simp only [wpOpsSIn, hget]
  refine ⟨about_FW _ _ _ _ _, ?_⟩
  rw [if_pos hw, hex]
  simp only
  cases hr : recoverD (c₀ :: cs) with
  | none =>
    rw [hr] at hrec
    obtain ⟨rfl, hc⟩ := hrec
    simp only
    show rest.wpSIn (FW none) 0 P _ _ (c₀ :: cs) e.w
    rw [← hc] at fin; exact fin
  | some q =>
    obtain ⟨v', cs'⟩ := q
    rw [hr] at hrec
    obtain ⟨rfl, rfl⟩ := hrec
    exact fin
def retQD (P : Program) (rs : List ResultVar) (f2 : FuncId) (R : ARes → List AObj → Prop) : AExit → St → Prop
  | .normal, s | .ret, s => ∃ caps R2, s.df = [.call (.func f2) [] caps] ∧ ADefer P f2 caps s.H none R2 ∧ ∀ H', R2 H' → ∃ v, resAV P { s with H := H' } rs = some v ∧ R (.ret v) H'
  | .panic a, s => ∃ caps R2, s.df = [.call (.func f2) [] caps] ∧ ADefer P f2 caps s.H (some a) R2 ∧ ∀ H', R2 H' → ∃ v, resAV P { s with H := H' } rs = some v ∧ R (.ret v) H'
  | _, _ => False
theorem acall_of_defer {P : Program} {f f2 : FuncId} {fn : Func} {code : Code} {args : List AV} {H : List AObj} {R : ARes → List AObj → Prop} {rs : List ResultVar}
    (hf : P.funcs[f]? = some fn) (hb : fn.body = some code) (hrs : fn.results = rs.toArray) (hn : args.length ≤ fn.ntmps) (he2 : Ent P f2)
    (h : ∀ e0, e0.H = H → AWP ⟨P, none, fn.ntmps, e0⟩ code (retQD P rs f2 R) ⟨slotsOf 0 args, H, []⟩) : ACall P f args H R := by
  intro e vs ok hH hs
  refine callsIn_of_wp_defers hf hb trivial ?_
  have hlen := hs.length
  have hsz : vs.size = args.length := by simpa using hlen
  have hsim : Sim ⟨P, none, fn.ntmps, e⟩ ⟨slotsOf 0 args, H, []⟩ e { tmps := vs ++ Array.replicate (fn.ntmps - vs.size) undef, defers := [] } := by
    refine ⟨by simp; omega, fun t => ?_, DRepL.nil, hH, ok, Fr.refl e⟩
    rw [get_slotsOf]
    simp only [Nat.zero_le, if_true, Nat.sub_zero]
    cases ha : args[t]? with
    | none => simp only [Option.getD_none]; rw [Rep]; trivial
    | some a =>
      obtain ⟨u, h1, h2⟩ := hs.get t a ha
      have ht : t < vs.size := by have := (List.getElem?_eq_some_iff.1 h1).1; simpa using this
      have : (vs ++ Array.replicate (fn.ntmps - vs.size) undef).getD t undef = u := by
        rw [Array.getD_eq_getD_getElem?, Array.getElem?_append_left ht]
        have : vs[t]? = some u := by simpa using h1
        rw [this]; rfl
      rw [this]; exact h2
  refine wpIn_mono (h e hH e _ hsim) ?_
  rintro x a w ⟨ax, s, e1, hq, rfl, hs1, hx⟩
  have fin : ∀ (rv : Option AV) (u : FrameMode), u ≠ .run → modeIs e1 rv u →
      (∃ caps R2, s.df = [.call (.func f2) [] caps] ∧ ADefer P f2 caps s.H rv R2 ∧ ∀ H', R2 H' → ∃ v, resAV P { s with H := H' } rs = some v ∧ R (.ret v) H') →
      LeavesIn (FW none) 0 P fn a.tmps (fun x w' => ∃ ax e', e'.w = w' ∧ EnvOK e' ∧ Fr e e' ∧ R ax e'.H ∧ endRep e' ax x) a.defers u e1.w := by
    rintro rv u hu hm ⟨caps, R2, hdf, hD, hfin⟩
    have hdr := hs1.defers
    rw [hdf] at hdr
    obtain ⟨d, rest, hde, ⟨av, cv, rfl, hav, hcv⟩, hr⟩ := hdr
    have : rest = [] := hr
    subst this
    have hav' : av = #[] := by rw [RepL] at hav; simpa using hav
    subst hav'
    rw [hde]
    refine ⟨hu, fun h => by simp [FW] at h, _, _, f2, #[] ++ cv, rfl, he2 _ _, fun _ _ => trivial, ?_⟩
    refine CallsDIn.mono (hD e1 (#[] ++ cv) u hs1.ok hs1.H (by simpa using hcv) hm) ?_
    rintro ex u' w' ⟨v, e', rfl, hset, rfl, ok', fr', hR2⟩
    show LeavesIn (FW none) 0 P fn a.tmps _ [] (settle u') e'.w
    rw [hset]
    obtain ⟨q, hv, hR⟩ := hfin _ hR2
    have hs2 : Sim ⟨P, none, fn.ntmps, e⟩ ⟨s.sl, e'.H, []⟩ e' { a with defers := [] } := ⟨hs1.size, fun t => Rep.mono fr'.le _ (hs1.slots t), DRepL.nil, rfl, ok', hs1.fr.trans fr'⟩
    have hv' : resAV P ⟨s.sl, e'.H, []⟩ rs = some q := by
      have e1 : resAV P ⟨s.sl, e'.H, []⟩ rs = resAV P { s with H := e'.H } rs := by
        have e2 : ∀ x, resVar P ⟨s.sl, e'.H, []⟩ x = resVar P { s with H := e'.H } x := fun x => by cases x <;> rfl
        match rs with
        | [] => rfl
        | [x] => simp only [resAV, e2]
        | [x, y] => simp only [resAV, e2]
        | [x, y, z] => simp only [resAV, e2]
        | [x, y, z, t] => simp only [resAV, e2]
        | _ :: _ :: _ :: _ :: _ :: _ => rfl
      rw [e1]; exact hv
    obtain ⟨u2, h1, h2⟩ := run_results hs2 hrs hv'
    exact ⟨u2, h1, .ret q, e', rfl, ok', hs1.fr.trans fr', hR, u2, rfl, h2⟩
  cases ax with
  | normal => obtain rfl : x = .normal := hx; exact fin none .returning (by simp) rfl hq
  | ret => obtain rfl : x = .ret := hx; exact fin none .returning (by simp) rfl hq
  | panic v => obtain ⟨u, rfl, hu⟩ := hx; exact fin (some v) _ (by simp) ⟨u, rfl, hu⟩ hq
  | exit _ => exact hq.elim
  | goto _ => exact hq.elim
end Go.Ab
namespace Go.Ab
variable [Tabs]
section ops
variable {P : Program} {r : Option Nat} {H : List AObj} {ρ : Operand → AV}
variable {d : Option Tmp} {t : TypeId} {p : String} {af : Array Edge} {g : Option (Nat × Bool)}
variable {x y z : Operand}
theorem repL_raws_eq {e : Env} : ∀ {vs us : List Value}, RepL e (vs.map .raw) us → us = vs
  | [], us, h => by rw [List.map_nil, RepL] at h; exact h
  | v :: vs, us, h => by
    rw [List.map_cons, RepL] at h
    obtain ⟨u, rest, rfl, h1, h2⟩ := h
    rw [Rep] at h1; subst h1
    rw [repL_raws_eq h2]
theorem less_agg_raw {l : List AV} {vs : List Value} (h : l = vs.map .raw) : Less (.agg l) (.raw (.agg vs.toArray)) := fun e v k => by
  subst h
  rw [Rep] at k
  obtain ⟨cs, hv, h1, _⟩ := k
  have h2 := repL_raws_eq h1
  have h3 : cs = vs.toArray := Array.ext' (by simpa using h2)
  subst h3; subst hv
  simp only [Rep]
theorem ev_assert_yes {xt at_ : TypeId} {a : AV} (ht : notIface P at_ = true) (hx : Less (ρ x) (.ifc at_ a)) : Ev P r ⟨d, .typeAssert x xt at_ true, t, p, af, g⟩ H ρ (.tup [a, .raw (.bool true)]) :=
  Ev.pure (by intro c h; cases h) fun e ρc ok hE hs => by
    have := hx e _ (hs x (by simp [Op.operands]))
    rw [Rep] at this
    obtain ⟨u, h1, h2⟩ := this
    unfold notIface at ht
    refine ⟨.tuple #[u, .bool true], ?_, by rw [Rep]; exact ⟨_, rfl, RepL.cons h2 (RepL.cons (by rw [Rep]) RepL.nil)⟩⟩
    cases hu : P.underlying at_ with
    | none => rw [hu] at ht; cases ht
    | some dsc =>
      rw [hu] at ht
      cases dsc <;> first | (simp [execOp, Instr.typeAssert, run_und hu, h1]; done) | cases ht
theorem ev_assert_no {xt at_ dt : TypeId} {a : AV} {z : List AV} (ht : notIface P at_ = true) (hz : zeroOf P at_ = some z) (hne : Nat.beq dt at_ = false) (hx : Less (ρ x) (.ifc dt a)) :
    Ev P r ⟨d, .typeAssert x xt at_ true, t, p, af, g⟩ H ρ (.tup [.any, .raw (.bool false)]) :=
  Ev.pure (by intro c h; cases h) fun e ρc ok hE hs => by
    have := hx e _ (hs x (by simp [Op.operands]))
    rw [Rep] at this
    obtain ⟨u, h1, h2⟩ := this
    obtain ⟨z0, hz0, _⟩ := zeroOf_run hz
    have hne' : dt ≠ at_ := fun h => by subst h; simp at hne
    unfold notIface at ht
    refine ⟨.tuple #[z0, .bool false], ?_, by rw [Rep]; exact ⟨_, rfl, RepL.cons (by rw [Rep]; trivial) (RepL.cons (by rw [Rep]) RepL.nil)⟩⟩
    cases hu : P.underlying at_ with
    | none => rw [hu] at ht; cases ht
    | some dsc =>
      rw [hu] at ht
      cases dsc <;> first | (simp [execOp, Instr.typeAssert, run_und hu, h1, hne', hz0]; done) | cases ht
theorem ev_ifc_eqnil {xt yt : TypeId} {dt : TypeId} {a : AV} {ms : Array (String × TypeId)} (hu : P.underlying xt = some (.interface ms)) (hx : Less (ρ x) (.ifc dt a)) (hy : Less (ρ y) (.raw .nilIface)) :
    Ev P r ⟨d, .binOp .eql xt x y yt, t, p, af, g⟩ H ρ (.raw (.bool false)) :=
  Ev.pure (by intro c h; cases h) fun e ρc ok hE hs => by
    have := hx e _ (hs x (by simp [Op.operands]))
    rw [Rep] at this
    obtain ⟨u, h1, h2⟩ := this
    have h3 := rep_raw hy (hs y (by simp [Op.operands]))
    refine ⟨.bool false, ?_, by rw [Rep]⟩
    have he : (Op.equal xt (.iface dt u) .nilIface).run P e.w = .ok false e.w := by
      show (Op.equalIn (9999 + 1) xt (.iface dt u) .nilIface).run P e.w = _
      rw [Op.equalIn]; simp [run_und hu]
    have hg : (eqGuard .eql xt x y (.iface dt u) .nilIface).run P e.w = .ok () e.w := by simp [eqGuard]
    have hb : (binOp .eql xt (.iface dt u) .nilIface).run P e.w = .ok (.bool false) e.w := by
      show (do pure (.bool (← Op.equal xt (.iface dt u) .nilIface)) : Sem Value).run P e.w = _
      simp [he]
    simp only [execOp, h1, h3]
    simp [hg, hb]
end ops
end Go.Ab
namespace Go.Ab
variable [Tabs]
structure QSim (c : Ctx) (s : St) (e : Env) (a : Act) : Prop where
  sim : Sim c s e a
  ext : Ext c.e0 e
def qlift (c : Ctx) (Q : AExit → St → Prop) (x : Exit) (a : Act) (w : World) : Prop :=
  ∃ ax s e, Q ax s ∧ e.w = w ∧ QSim c s e a ∧ exRep e ax x
def QWP (c : Ctx) (code : Code) (Q : AExit → St → Prop) (s : St) : Prop :=
  ∀ e a, QSim c s e a → code.wpIn (FW c.r) 0 c.P (qlift c Q) a e.w
section q
variable {c : Ctx} {Q : AExit → St → Prop} {s : St}
theorem qw_seq {x y : Code} (h : QWP c x (AExit.then (QWP c y Q) Q) s) : QWP c (.seq x y) Q s := by
  intro e a hs
  refine wpIn_seq (wpIn_mono (h e a hs) ?_)
  rintro ex a' w ⟨ax, s', e', hq, rfl, hs', hx⟩
  cases ax with
  | normal => obtain rfl : ex = .normal := hx; exact hq e' a' hs'
  | exit id => obtain rfl : ex = .exit id := hx; exact ⟨.exit id, s', e', hq, rfl, hs', rfl⟩
  | goto l => obtain rfl : ex = .goto l := hx; exact ⟨.goto l, s', e', hq, rfl, hs', rfl⟩
  | ret => obtain rfl : ex = .ret := hx; exact ⟨.ret, s', e', hq, rfl, hs', rfl⟩
  | panic v => obtain ⟨u, rfl, hu⟩ := hx; exact ⟨.panic v, s', e', hq, rfl, hs', u, rfl, hu⟩
theorem qw_skip (h : Q .normal s) : QWP c .skip Q s := fun e _ hs => wpIn_skip ⟨.normal, s, e, h, rfl, hs, rfl⟩
theorem qw_ret (h : Q .ret s) : QWP c .ret Q s := fun e _ hs => wpIn_ret ⟨.ret, s, e, h, rfl, hs, rfl⟩
theorem qw_cond {x : Operand} {y z : Code} {b : Bool} (hb : Less (s.op x) (.raw (.bool b))) (h1 : b = true → QWP c y Q s) (h2 : b = false → QWP c z Q s) : QWP c (.cond x y z) Q s := by
  intro e a hs
  have := hb e _ (hs.sim.op x)
  rw [Rep] at this
  exact wpIn_cond_split this (fun h => h1 h e a hs) (fun h => h2 h e a hs)
def QSeq (c : Ctx) (ops : Array Oper) (Q : AExit → St → Prop) (i : Nat) (l : List Oper) (s : St) : Prop :=
  ops.toList.drop i = l → ∀ e a, QSim c s e a → wpOpsIn (FW c.r) 0 c.P ops (qlift c Q) (List.range' i l.length) a e.w
theorem qw_region {id : Nat} {l : List Oper} (h : QSeq c l.toArray Q 0 l s) : QWP c (.region id l.toArray false) Q s :=
  fun e a hs => wpIn_region (by have := h (by simp) e a hs; rwa [List.range_eq_range', List.size_toArray])
variable {ops : Array Oper} {rest : List Oper} {i : Nat} {d : Option Tmp} {op : Op} {t : TypeId} {p : String} {af : Array Edge}
theorem qs_nil (h : Q .normal s) : QSeq c ops Q i [] s := fun _ e _ hs => ⟨.normal, s, e, h, rfl, hs, rfl⟩
theorem qs_ev {v : AV} (hd : dOK c.nt d = true) (hv : Ev c.P c.r ⟨d, op, t, p, af, none⟩ s.H s.op v) (k : QSeq c ops Q (i + 1) rest (s.put d v)) : QSeq c ops Q i (⟨d, op, t, p, af, none⟩ :: rest) s := by
  intro hdr e a hs
  obtain ⟨ho, hr⟩ := drop_cons hdr
  have ho : ops[i]? = some ⟨d, op, t, p, af, none⟩ := by simpa using ho
  simp only [List.length_cons, List.range'_succ, wpOpsIn, ho, Region.wanted, if_true]
  exact hv e a _ _ hs.sim.ok (hs.sim.H ▸ HSub.refl _) (fun x _ => hs.sim.op x) (fun u e' hx hu => k hr e' _ ⟨(hs.sim.ext hx).put hd hu, hs.ext.trans hx⟩)
end q
def AQuiet (P : Program) (f : FuncId) (args : List AV) (H : List AObj) (res : AV) : Prop :=
  ∀ e (vs : Array Value), EnvOK e → HSub H e.H → RepL e args vs.toList →
    CallsIn (FW none) 0 P f vs e.w fun x w' => ∃ u e', x = .returned u ∧ e'.w = w' ∧ Ext e e' ∧ Rep e' res u
theorem aquiet_of {P : Program} {f : FuncId} {fn : Func} {code : Code} {args : List AV} {H : List AObj} {res : AV} {t : Tmp}
    (hf : P.funcs[f]? = some fn) (hb : fn.body = some code) (hrs : fn.results = #[.tmp t]) (hn : args.length ≤ fn.ntmps)
    (h : ∀ e0, HSub H e0.H → QWP ⟨P, none, fn.ntmps, e0⟩ code (fun ax s => (ax = .normal ∨ ax = .ret) ∧ s.df = [] ∧ Less (sget s.sl t) res) ⟨slotsOf 0 args, e0.H, []⟩) : AQuiet P f args H res := by
  intro e vs ok hH hs
  refine callsIn_of_wp hf hb trivial ?_
  have hlen := hs.length
  have hsz : vs.size = args.length := by simpa using hlen
  have hsim : Sim ⟨P, none, fn.ntmps, e⟩ ⟨slotsOf 0 args, e.H, []⟩ e { tmps := vs ++ Array.replicate (fn.ntmps - vs.size) undef, defers := [] } := by
    refine ⟨by simp; omega, fun t => ?_, DRepL.nil, rfl, ok, Fr.refl e⟩
    rw [get_slotsOf]
    simp only [Nat.zero_le, if_true, Nat.sub_zero]
    cases ha : args[t]? with
    | none => simp only [Option.getD_none]; rw [Rep]; trivial
    | some a =>
      obtain ⟨u, h1, h2⟩ := hs.get t a ha
      have ht : t < vs.size := by have := (List.getElem?_eq_some_iff.1 h1).1; simpa using this
      have : (vs ++ Array.replicate (fn.ntmps - vs.size) undef).getD t undef = u := by
        rw [Array.getD_eq_getD_getElem?, Array.getElem?_append_left ht]
        have : vs[t]? = some u := by simpa using h1
        rw [this]; rfl
      rw [this]; exact h2
  refine wpIn_mono (h e hH e _ ⟨hsim, Ext.refl ok⟩) ?_
  rintro x a w ⟨ax, s, e1, ⟨hax, hdf, hl⟩, rfl, hs1, hx⟩
  have hv : resAV P s [.tmp t] = some (sget s.sl t) := rfl
  obtain ⟨u, h1, h2⟩ := run_results hs1.sim (l := [.tmp t]) hrs hv
  have fin : a.defers = [] ∧ ∃ v, (results fn a.tmps).run P e1.w = .ok v e1.w ∧ ∃ u e', Ending.returned v = .returned u ∧ e'.w = e1.w ∧ Ext e e' ∧ Rep e' res u :=
    ⟨hs1.sim.defers.of_nil hdf, u, h1, u, e1, rfl, rfl, hs1.ext, hl _ _ h2⟩
  rcases hax with rfl | rfl
  · obtain rfl : x = .normal := hx; exact fin
  · obtain rfl : x = .ret := hx; exact fin
section ev
variable {P : Program} {r : Option Nat} {H : List AObj} {ρ : Operand → AV}
variable {d : Option Tmp} {t : TypeId} {p : String} {af : Array Edge} {g : Option (Nat × Bool)} {x y : Operand}
theorem ev_callQ {as : Array Operand} {ats : Array TypeId} {f : FuncId} {first cap args : List AV} {res : AV} (he : Ent P f) (hx : Less (ρ x) (.fn (.func f) first cap))
    (hc : AQuiet P f args H res) (ha : LessL (first ++ as.toList.map ρ ++ cap) args) : Ev P r ⟨d, .call ⟨.value x, as, ats⟩, t, p, af, g⟩ H ρ res := by
  intro e a next Q' ok hH hs hn
  have hxr := hx e _ (hs x (by simp [Op.operands, Call.operands]))
  rw [Rep] at hxr
  obtain ⟨fv, cv, hfv, h1, h2⟩ := hxr
  have h3 : RepL e (as.toList.map ρ) (as.toList.map a.eval) := RepL.mapped fun y hy => hs y (by simp [Op.operands, Call.operands]; exact .inr (by simpa using hy))
  refine ⟨about_FW _ _ _ _ _, ?_⟩
  show Oper.uponIn (FW r) 0 P _ a next Q' (((Oper.semAt r a.eval ⟨d, .call ⟨.value x, as, ats⟩, t, p, af, g⟩)).run P e.w)
  rw [semAt_of (by intro c h; cases h), run_callop hfv he]
  refine ⟨fun h => by simp [FW] at h, ?_⟩
  have := hc e (fv ++ as.map a.eval ++ cv) ok hH (ha.rep (by simpa using (h1.append h3).append h2))
  refine CallsIn.mono (F := FW r) (n := 0) this ?_
  rintro x w' ⟨u, e', rfl, rfl, hxt, hu⟩
  exact hn u e' hxt hu
theorem src_msl {e : Env} (ok : EnvOK e) {sz j n cap : Nat} {es : List (List AV)} {rs : List AV} {v : Value} {xt et : TypeId} (hk : P.underlying xt = some (.slice et)) (h : Rep e (.msl j 0 n cap) v)
    (hj : e.H[j]? = some (.cells (es.flatten ++ rs))) (hn : es.length = n) (hsz : ∀ q ∈ es, q.length = sz) :
    ∃ news, Src P sz xt v es.length news e.w ∧ RepL e es.flatten news := by
  rw [Rep] at h
  obtain ⟨a1, a2, b, hb, rfl, hle⟩ := h
  obtain ⟨b', cs, ct, q1, q2, q3, q4, q5⟩ := ok.objs j _ hj
  rw [hb] at q1; cases q1
  have hfl : es.flatten.length = n * sz := by rw [flatten_len hsz, hn]
  have hl := q4.length
  rw [List.length_append] at hl
  have htk : RepL e es.flatten (cs.toList.take (n * sz)) := by
    have := q4.take (n * sz)
    rwa [← hfl, List.take_left' rfl, hfl] at this
  refine ⟨cs.toList.take (n * sz), ?_, htk⟩
  subst hn
  refine Src.ofSlice (P := P) e.w hk ⟨b, 0, none⟩ es.length cap _ (by rw [List.length_take]; omega) (fun m u hm => ?_) (fun u hu => q5 u (List.mem_of_mem_take hu))
  have hml : m < es.length * sz := by have := lt_of_get? hm; rw [List.length_take] at this; omega
  rw [List.getElem?_take_of_lt hml] at hm
  rw [Addr.add_lit]
  unfold World.cell?; simp only [q3]; simpa using hm
theorem ev_append_msl {st xt et et' : TypeId} {sz bytes j n cap : Nat} {es xs : List (List AV)} {rs : List AV} (hf : SlFact P st et sz bytes) (hk : P.underlying xt = some (.slice et')) (hx : Less (ρ x) (.slx sz es))
    (hy : Less (ρ y) (.msl j 0 n cap)) (hj : H[j]? = some (.cells (xs.flatten ++ rs))) (hn : xs.length = n) (hsz : ∀ q ∈ xs, q.length = sz) (hb : (es.length + xs.length) * bytes ≤ 140737488355328) (h63 : es.length + xs.length ≤ 9223372036854775807) :
    Ev P r ⟨d, .call ⟨.builtin .append, #[x, y], #[st, xt]⟩, t, p, af, g⟩ H ρ (.sl sz (es ++ xs)) :=
  Ev.of_run (by intro c h; cases h) fun e ρc ok hE hs => by
    have hu := hx e _ (hs x (by simp [Op.operands, Call.operands]))
    have hv := hy e _ (hs y (by simp [Op.operands, Call.operands]))
    have hu0 := hu
    rw [Rep] at hu
    obtain ⟨a, len, hv1, hlen, hnil, hsze, hc⟩ := hu
    have hje := pre_get hE hj
    obtain ⟨ti, z, t1, t2, rfl, rfl, t5, t6, t7⟩ := hf.ex
    obtain ⟨news, hsrc, hnw⟩ := src_msl ok hk hv hje hn hsz
    have hex : (execOp ρc ⟨d, .call ⟨.builtin .append, #[x, y], #[st, xt]⟩, t, p, af, g⟩).run P e.w = ((Builtin.append_ #[st, xt] t #[.slice a len len, ρc y]).run P e.w).andThen fun v w'' => .ok (.value v) w'' := by
      simp [execOp, resolve, invoke, builtin, hv1]
    rw [hex]
    obtain ⟨olds, ho1, ho2, ho3, ho4⟩ := slx_read (P := P) (cap := len) hlen hnil hsze hc
    subst hlen
    rcases Nat.eq_zero_or_pos xs.length with h0 | hpos
    · have hxs : xs = [] := List.length_eq_zero_iff.1 h0
      subst hxs
      have hnews : news = [] := by simpa [RepL] using hnw
      subst hnews
      have hrun : (Builtin.append_ #[st, xt] t #[.slice a es.length es.length, ρc y]).run P e.w = .ok (.slice a es.length es.length) e.w := by
        have hl := hsrc.len
        simp only [List.length_nil] at hl
        have hcel := hsrc.cells
        simp only [List.length_nil] at hcel
        cases a <;> simp [Builtin.append_, run_und t1, run_und hk, run_size t2, hl, hcel, storeCells]
      rw [hrun]
      refine ⟨_, e, rfl, Ext.refl ok, ?_⟩
      rw [List.append_nil]; exact less_slx _ _ _ _ (hv1 ▸ hu0)
    · have hcap := nextslicecap_le (show es.length < es.length + xs.length by omega)
      have hrun := run_append_grow_src (P := P) e.w st xt t et ti z t1 t2 t5 a es.length es.length olds ho3 (ρc y) xs.length news hsrc (by omega) (by omega) (by
        have := Nat.mul_le_mul_right ti.bytes hcap
        have h2 : 2 * (es.length + xs.length) * ti.bytes = 2 * ((es.length + xs.length) * ti.bytes) := by rw [Nat.mul_assoc]
        omega)
      have hle := grownCap_le e.w (es.length + xs.length) es.length et
      generalize grownCap e.w (es.length + xs.length) es.length et = cap' at hrun hle
      rw [hrun]
      have hwh : (e.w.drew.alloc (.cells ((olds ++ news).toArray ++ Builtin.zeroCells z.cells (cap' - (es.length + xs.length))) et)).heap = e.w.heap.push (.cells ((olds ++ news).toArray ++ Builtin.zeroCells z.cells (cap' - (es.length + xs.length))) et (0, 0)) := rfl
      have hall : RepL e (es ++ xs).flatten (olds ++ news) := by rw [List.flatten_append]; exact ho1.append hnw
      have hone : ∀ v ∈ olds ++ news, isCell v = true := fun v hv => by
        rcases List.mem_append.1 hv with h | h
        · exact ho2 v h
        · exact hsrc.one v h
      have hcells := cells_row ok hwh (by exact ⟨rfl, rfl⟩) hall hone (fun m v hm => by
        have hl := lt_of_get? hm
        rw [Array.getElem?_append_left (by simpa using hl)]; simpa using hm)
      have hln : (olds ++ news).length = (es ++ xs).flatten.length := hall.length
      refine ⟨_, e.row (olds ++ news).length _, rfl, Env.row_ext ok hwh (by exact ⟨rfl, rfl⟩), ?_⟩
      rw [Rep]
      refine ⟨_, _, _, rfl, by simp, by omega, (fun h => by cases h), fun q hq => ?_, fun ad had => ?_⟩
      · rcases List.mem_append.1 hq with h | h
        · exact hsze q h
        · exact hsz q h
      · simp only [Option.some.injEq] at had; subst had
        exact ⟨fun _ => rfl, ElemsAt.flat.2 hcells⟩
theorem ev_sl_nil_msl {xt yt et : TypeId} {sz j off n cap : Nat} (ht : slElem P xt = some (et, sz)) (hx : Less (ρ x) (.msl j off n cap)) (hy : Less (ρ y) (.raw (.slice none 0 0))) :
    Ev P r ⟨d, .binOp .eql xt x y yt, t, p, af, g⟩ H ρ (.raw (.bool false)) :=
  Ev.pure (by intro c h; cases h) fun e ρc ok hE hs => by
    obtain ⟨h1, _⟩ := slElem_und ht
    have hv := hx e _ (hs x (by simp [Op.operands]))
    rw [Rep] at hv
    obtain ⟨_, _, b, _, hv, _⟩ := hv
    have hw := rep_raw hy (hs y (by simp [Op.operands]))
    refine ⟨.bool false, ?_, by rw [Rep]⟩
    have he : (Op.equal xt (.slice (some ⟨b, off, none⟩) n cap) (.slice none 0 0)).run P e.w = .ok false e.w := by
      show (Op.equalIn (9999 + 1) xt _ _).run P e.w = _
      rw [Op.equalIn]; simp [run_und h1]
    have hg : (eqGuard .eql xt x y (.slice (some ⟨b, off, none⟩) n cap) (.slice none 0 0)).run P e.w = .ok () e.w := by simp [eqGuard]
    have hb : (binOp .eql xt (.slice (some ⟨b, off, none⟩) n cap) (.slice none 0 0)).run P e.w = .ok (.bool false) e.w := by
      show (do pure (.bool (← Op.equal xt (.slice (some ⟨b, off, none⟩) n cap) (.slice none 0 0))) : Sem Value).run P e.w = _
      simp [he]
    simp only [execOp, hv, hw]
    simp [hg, hb]
end ev
/-- **A box that is written no more.** -/
theorem sub_iptr {c : Ctx} {s : St} {j : Nat} {l : List AV} {sl' : List (Nat × AV)} {H' : List AObj} (hj : s.H[j]? = some (.cells l)) (hH : H' = s.H.set j .dead)
    (hsl : ∀ q ∈ sl', ∀ e e' : Env, e.Le e' → (∀ v, Rep e (.ptr j 0) v → Rep e' (.iptr l) v) → ∀ v, Rep e (sget s.sl q.1) v → Rep e' q.2 v) : Sub c s ⟨sl', H', s.df⟩ := by
  subst hH
  intro e a hs
  have hje : e.H[j]? = some (.cells l) := by rw [hs.H]; exact hj
  have hjl := lt_of_get? hje
  obtain ⟨b, cs, ct, m1, m2, m3, m4, m5⟩ := hs.ok.objs j _ hje
  have hTj : e.T j = none := by unfold Env.T; rw [hje]; rfl
  obtain ⟨e', he'⟩ : ∃ e' : Env, e' = { H := e.H.set j .dead, μ := e.μ, G := fun b' => if b' = b then cs.size else e.G b', w := e.w } := ⟨_, rfl⟩
  have hT : ∀ i, e'.T i = e.T i := fun i => by
    rw [he']; unfold Env.T; simp only
    by_cases hi : j = i
    · subst hi; rw [List.getElem?_set_self hjl, hje]; rfl
    · rw [List.getElem?_set_ne hi]
  have hne : ∀ i, i < e.H.length → i ≠ j → e.μ i ≠ some b := fun i hi hij h => hij (hs.ok.inj i j b hi hjl h m1)
  have le : e.Le e' := by
    refine ⟨by rw [he']; simp, fun i hi ht => ⟨by rw [hT]; exact ht, fun b' hb' => by rw [he']; exact hb'⟩, fun b' off ho => ?_, fun i m ht => ⟨m, by rw [hT]; exact ht, Nat.le_refl _, fun _ => ⟨by rw [he'], fun b' cs' t' hm hh => ?_⟩⟩⟩
    · by_cases h : b' = b
      · subst h; rw [m2] at ho; omega
      · rw [he']; exact ⟨by simp only [if_neg h]; exact ho, rfl⟩
    · have hi := T_lt ht
      have hij : i ≠ j := fun h => by subst h; rw [hTj] at ht; cases ht
      have hbb : b' ≠ b := fun h => by subst h; exact hne i hi hij hm
      rw [he']; exact ⟨by simp only [if_neg hbb], cs', hh, rfl⟩
  have hcells : CellsAt e' l b 0 := by
    refine CellsAt.of_values (e := e') (cs := cs) (t := ct) (fr := (0, 0)) (by rw [he']; exact m3) (RepL.mono le _ m4) m5 (fun m q hm => by simpa using hm) ?_
    rw [he', Array.length_toList]; simp
  have key : ∀ v, Rep e (.ptr j 0) v → Rep e' (.iptr l) v := by
    intro v hv
    rw [Rep] at hv
    obtain ⟨_, _, b', hb', rfl⟩ := hv
    rw [m1] at hb'; cases hb'
    rw [Rep]; exact ⟨b, 0, rfl, hcells⟩
  refine ⟨e', by rw [he'], hs.size, fun t => ?_, hs.defers.mono le, by rw [he', hs.H], ⟨fun b' hb' => ?_, fun i o ho => ?_, fun i k b' hi hk h1 h2 => ?_, fun i b' hi h1 => ?_, hs.ok.tabs.sub (by rw [he']) fun i b' hi h1 => ⟨i, by rw [he'] at hi; simpa using hi, by rw [he'] at h1; exact h1⟩⟩, ⟨by rw [he']; exact hs.fr.size, by rw [he']; exact hs.fr.still, fun b' hb' hno => ?_, fun i b' hi h1 => ?_, hs.fr.le.trans le⟩⟩
  · have hfz : ∀ (sl : List (Nat × AV)), (∀ q ∈ sl, ∀ e e' : Env, e.Le e' → (∀ v, Rep e (.ptr j 0) v → Rep e' (.iptr l) v) → ∀ v, Rep e (sget s.sl q.1) v → Rep e' q.2 v) → Rep e' (sget sl t) (a.tmps.getD t undef) := by
      intro sl
      induction sl with
      | nil => intro _; show Rep e' .any _; rw [Rep]; trivial
      | cons x sl ih =>
        intro h
        obtain ⟨u, q⟩ := x
        simp only [sget]
        cases hu : u == t with
        | true =>
          have : u = t := by simpa using hu
          subst this
          exact h (u, q) (by simp) e e' le key _ (hs.slots u)
        | false => exact ih fun y hy => h y (List.mem_cons_of_mem _ hy)
    exact hfz sl' hsl
  · rw [he'] at hb' ⊢
    have hbl := lt_of_heap m3
    have : b' ≠ b := fun h => by subst h; simp only at hb'; omega
    simp only [if_neg this]; exact hs.ok.fresh b' hb'
  · by_cases hi : j = i
    · subst hi
      rw [he'] at ho; simp only [List.getElem?_set_self hjl, Option.some.injEq] at ho; subst ho; trivial
    · have ho' : e.H[i]? = some o := by rw [he'] at ho; simpa [List.getElem?_set_ne hi] using ho
      refine ObjSim.mono le (hs.ok.objs i o ho') (by rw [he']) (fun b' hb' => ?_)
      have : b' ≠ b := fun h => by subst h; exact hne i (lt_of_get? ho') (fun h => hi h.symm) hb'
      rw [he']; exact ⟨rfl, by simp only [if_neg this]⟩
  · rw [he'] at hi hk h1 h2; exact hs.ok.inj i k b' (by simpa using hi) (by simpa using hk) h1 h2
  · rw [he'] at hi h1 ⊢; exact hs.ok.live i b' (by simpa using hi) h1
  · have h1 := hs.fr.heap b' hb' hno
    have hbb : b' ≠ b := fun h => by
      subst h
      rcases hs.fr.objs j b' hjl m1 with h2 | ⟨q, hq, h2⟩
      · omega
      · exact hno q hq h2
    rw [he']; exact ⟨h1.1, by simp only [if_neg hbb]; exact h1.2⟩
  · rw [he'] at hi h1; exact hs.fr.objs i b' (by simpa using hi) h1
end Go.Ab
namespace Go.Ab
variable [Tabs]
theorem retQ_any {P : Program} {rs : List ResultVar} {R : ARes → List AObj → Prop} {vs : List AV} {s : St} (hd : s.df = []) (hlen : Nat.ble rs.length 3 = true) (hv : ResL P s rs vs) (hR : R (.ret (resTup vs)) s.H) :
    retQ P rs R .ret s := ⟨hd, _, resAV_of (Nat.le_of_ble_eq_true hlen) hv, hR⟩
def APan (P : Program) (f : FuncId) (args : List AV) (R : ARes → Prop) : Prop := ∀ H, ACall P f args H fun x H' => H' = H ∧ R x
def ARes.pureB : ARes → Bool
  | .ret v => v.pureB
  | .pan v => v.pureB
theorem APan.of_acall {P : Program} {f : FuncId} {args : List AV} {R : ARes → Prop} (hp : AV.pureL args = true)
    (h : ACall P f args [] fun x _ => ∃ y, R y ∧ y.pureB = true ∧ (match x, y with | .ret v, .ret u => Less v u | .pan v, .pan u => Less v u | _, _ => False)) : APan P f args R := by
  intro H e vs ok hH hs
  have ok0 : EnvOK ⟨[], fun _ => none, e.G, e.w⟩ := ⟨ok.fresh, fun i o h => by simp at h, fun i j b hi => by simp at hi, fun i b hi => by simp at hi, ok.tabs.sub rfl fun i b hi => by simp at hi⟩
  refine (h ⟨[], fun _ => none, e.G, e.w⟩ vs ok0 rfl (RepL.pure (e := e) (e' := ⟨[], fun _ => none, e.G, e.w⟩) rfl rfl args hp hs)).mono ?_
  rintro x w' ⟨ax, e1, rfl, ok1, fr, ⟨y, hR, hy, hm⟩, hend⟩
  have hx : Ext e ⟨e.H, e.μ, e1.G, e1.w⟩ := ⟨rfl, fun _ _ => rfl, fr.size, fr.still, fun b hb => (fr.heap b hb (fun i hi => by simp at hi)).1, fun b hb => (fr.heap b hb (fun i hi => by simp at hi)).2, ok1.fresh⟩
  refine ⟨y, ⟨e.H, e.μ, e1.G, e1.w⟩, rfl, ok.ext hx, (Fr.refl e).ext ok hx, ⟨hH, hR⟩, ?_⟩
  cases ax with
  | ret v =>
    cases y with
    | ret u => obtain ⟨z, rfl, hz⟩ := hend; exact ⟨z, rfl, Rep.pure (e := e1) (e' := ⟨e.H, e.μ, e1.G, e1.w⟩) rfl rfl u hy (hm _ _ hz)⟩
    | pan u => exact hm.elim
  | pan v =>
    cases y with
    | ret u => exact hm.elim
    | pan u => obtain ⟨z, rfl, hz⟩ := hend; exact ⟨z, rfl, Rep.pure (e := e1) (e' := ⟨e.H, e.μ, e1.G, e1.w⟩) rfl rfl u hy (hm _ _ hz)⟩
def keysIn (l : List Int) : List Int := l.foldl (fun acc n => if n ∈ acc then acc else acc ++ [n]) []
theorem keysIn_snoc (l : List Int) (n : Int) : keysIn (l ++ [n]) = if n ∈ keysIn l then keysIn l else keysIn l ++ [n] := by
  unfold keysIn; rw [List.foldl_append]; rfl
theorem keysIn_aux : ∀ (l acc : List Int), acc.Nodup → (l.foldl (fun acc n => if n ∈ acc then acc else acc ++ [n]) acc).Nodup ∧ ∀ n, n ∈ l.foldl (fun acc n => if n ∈ acc then acc else acc ++ [n]) acc ↔ n ∈ acc ∨ n ∈ l
  | [], acc, h => ⟨h, fun n => by simp⟩
  | x :: l, acc, h => by
    simp only [List.foldl_cons]
    by_cases hx : x ∈ acc
    · rw [if_pos hx]
      obtain ⟨h1, h2⟩ := keysIn_aux l acc h
      refine ⟨h1, fun n => ?_⟩
      rw [h2, List.mem_cons]
      constructor
      · rintro (k | k)
        · exact .inl k
        · exact .inr (.inr k)
      · rintro (k | k | k)
        · exact .inl k
        · exact .inl (k ▸ hx)
        · exact .inr k
    · rw [if_neg hx]
      obtain ⟨h1, h2⟩ := keysIn_aux l (acc ++ [x]) (by
        rw [List.nodup_append]; refine ⟨h, by simp, fun a ha b hb => ?_⟩
        simp at hb; subst hb; exact fun e => hx (e ▸ ha))
      exact ⟨h1, fun n => by rw [h2]; simp [or_assoc]⟩
theorem keysIn_nodup (l : List Int) : (keysIn l).Nodup := (keysIn_aux l [] (by simp)).1
theorem mem_keysIn {l : List Int} {n : Int} : n ∈ keysIn l ↔ n ∈ l := by have := (keysIn_aux l [] (by simp)).2 n; simpa [keysIn] using this
def setM (l : List Int) : List (Int × Value) := (keysIn l).map fun k => (k, .agg #[])
theorem setM_put (l : List Int) (n : Int) : mapPut (setM l) n (.agg #[]) = setM (l ++ [n]) := by
  unfold setM; rw [mapPut_keys, keysIn_snoc]
theorem setM_nodup (l : List Int) : ((setM l).map (·.1)).Nodup := by
  have : (setM l).map (·.1) = keysIn l := by simp [setM, List.map_map, Function.comp_def]
  rw [this]; exact keysIn_nodup l
theorem setM_any (l : List Int) (n : Int) : (setM l).any (fun x => decide (x.1 = n)) = decide (n ∈ l) := by
  rw [Bool.eq_iff_iff]; simp [setM, List.any_eq_true, mem_keysIn]
theorem less_unit : Less (.agg []) (.raw (.agg #[])) := less_agg_raw (vs := []) rfl
section set
variable {P : Program} {r : Option Nat} {H : List AObj} {ρ : Operand → AV}
variable {d : Option Tmp} {t : TypeId} {p : String} {af : Array Edge} {g : Option (Nat × Bool)} {x y : Operand}
theorem ev_lookup_set {mt kt et : TypeId} {j : Nat} {l : List Int} {n : Int} (hmt : mapTy P mt = some (kt, et)) (hkt : isIntT P kt = true) (hz : zeroOf P et = some [])
    (hx : Less (ρ x) (.mp j)) (hy : Less (ρ y) (.raw (.int .i64 n))) (hj : H[j]? = some (.map (imap (setM l)))) : Ev P r ⟨d, .lookup mt x y true, t, p, af, g⟩ H ρ (.tup [.agg [], .raw (.bool (decide (n ∈ l)))]) :=
  Ev.pure (by intro c h; cases h) fun e ρc ok hE hs => by
    have hxr := hx e _ (hs x (by simp [Op.operands]))
    rw [Rep] at hxr
    obtain ⟨h1, h2, b, hb, hxv⟩ := hxr
    have hyv := rep_raw hy (hs y (by simp [Op.operands]))
    obtain ⟨b', ents, cl, hb', hh, hents⟩ := ok.objs j _ (hE j _ hj (fun n e => by cases e))
    rw [hb] at hb'; cases hb'
    have hgo : (getObj b).run P e.w = .ok (.map ents cl) e.w := by simp [getObj, Sem.run, hh]
    have hfk := run_findKey (P := P) (w := e.w) hkt (n := n) hents
    obtain ⟨z0, hz0, hzc, _⟩ := zeroOf_run hz
    have hz1 : z0 = .agg #[] := by
      have : z0.cells.toList = [] := by simpa using hzc.symm
      cases z0 <;> simp [Value.cells] at this
      rw [this]
    have hunit : Rep e (.agg []) (.agg #[]) := by rw [Rep]; exact ⟨#[], rfl, RepL.nil, by simp⟩
    rw [← setM_any]
    cases hf : (setM l).findIdx? (fun x => decide (x.1 = n)) with
    | none =>
      rw [hf] at hfk
      have hany : (setM l).any (fun x => decide (x.1 = n)) = false := by
        rw [List.findIdx?_eq_none_iff] at hf
        rw [List.any_eq_false]; intro y hy; simpa using hf y hy
      refine ⟨.tuple #[z0, .bool false], ?_, ?_⟩
      · simp [execOp, Instr.lookup, hxv, hyv, run_und (mapTy_eq hmt), hgo, run_checkKey hkt, hfk, hz0]
      · rw [hany, Rep, hz1]; exact ⟨_, rfl, RepL.cons hunit (RepL.cons (by rw [Rep]) RepL.nil)⟩
    | some q =>
      rw [hf] at hfk
      have hf' := hf
      rw [List.findIdx?_eq_some_iff_getElem] at hf
      obtain ⟨hql, hqn, _⟩ := hf
      have hany : (setM l).any (fun x => decide (x.1 = n)) = true := by
        rw [List.any_eq_true]; exact ⟨(setM l)[q], List.getElem_mem hql, hqn⟩
      have hv : ((setM l).getD q default).2 = .agg #[] := by
        rw [List.getD_eq_getElem?_getD, List.getElem?_eq_getElem hql]
        have : (setM l)[q] ∈ setM l := List.getElem_mem hql
        obtain ⟨k, _, hk⟩ := List.mem_map.1 this
        simp [← hk]
      refine ⟨.tuple #[((setM l).getD q default).2, .bool true], ?_, ?_⟩
      · simp [execOp, Instr.lookup, hxv, hyv, run_und (mapTy_eq hmt), hgo, run_checkKey hkt, hfk]
      · rw [hany, Rep, hv]; exact ⟨_, rfl, RepL.cons hunit (RepL.cons (by rw [Rep]) RepL.nil)⟩
end set
end Go.Ab
