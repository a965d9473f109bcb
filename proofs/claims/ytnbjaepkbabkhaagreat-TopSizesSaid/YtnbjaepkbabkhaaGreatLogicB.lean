/-
  A part of the proof: conditions: none beyond each theorem's own.
-/
import Derived.Test.YtnbjaepkbabkhaaGreatLogicA
import Derived.OrdersIn
set_option linter.all false
namespace Go.Ab
variable [Tabs]
section tok
variable {c : Ctx} {ops : Array Oper} {Q : AExit → St → Prop} {rest : List Oper} {s : St} {i : Nat}
variable {d : Option Tmp} {t : TypeId} {p : String} {af : Array Edge}
theorem sub_token {c : Ctx} {s : St} (u sz : Nat) (hu : Less (sget s.sl u) (.raw (.slice none 0 0))) :
    Sub c s { s with H := s.H ++ [.tok 0], sl := (u, .own s.H.length sz []) :: s.sl } := by
  intro e a hs
  have hlen : e.H.length = s.H.length := by rw [hs.H]
  obtain ⟨e', rfl⟩ : ∃ e' : Env, e' = { H := e.H ++ [.tok 0], μ := fun i => if i = e.H.length then none else e.μ i, G := e.G, w := e.w } := ⟨_, rfl⟩
  have hT : ∀ i, i < e.H.length → Env.T { H := e.H ++ [.tok 0], μ := fun i => if i = e.H.length then none else e.μ i, G := e.G, w := e.w } i = e.T i := fun i hi => by
    simp [Env.T, List.getElem?_append_left hi]
  have le : e.Le { H := e.H ++ [.tok 0], μ := fun i => if i = e.H.length then none else e.μ i, G := e.G, w := e.w } := by
    refine ⟨by simp, fun i hi ht => ⟨by rw [hT i hi]; exact ht, fun _ hb => by simpa [Nat.ne_of_lt hi] using hb⟩, fun b off ho => ⟨ho, rfl⟩, fun i n ht => ?_⟩
    have hi : i < e.H.length := by
      rcases Nat.lt_or_ge i e.H.length with k | k
      · exact k
      · unfold Env.T at ht; rw [List.getElem?_eq_none k] at ht; simp [tokOf] at ht
    exact ⟨n, by rw [hT i hi]; exact ht, Nat.le_refl _, fun _ => ⟨by simp [Nat.ne_of_lt hi], fun b cs t _ hh => ⟨rfl, cs, hh, rfl⟩⟩⟩
  refine ⟨{ H := e.H ++ [.tok 0], μ := fun i => if i = e.H.length then none else e.μ i, G := e.G, w := e.w }, rfl, hs.size, fun t => ?_, hs.defers.mono le, by simp [hs.H], ⟨hs.ok.fresh, fun i o ho => ?_, fun i j b hi hj h1 h2 => ?_, fun i b hi h1 => ?_, hs.ok.tabs.tok 0⟩, ?_⟩
  · simp only [sget]
    cases hb : u == t with
    | false => exact Rep.mono le _ (hs.slots t)
    | true =>
      have : u = t := by simpa using hb
      subst this
      have hv := rep_raw hu (hs.slots u)
      simp only [cond_true]
      rw [Rep, hv]
      refine ⟨none, 0, 0, rfl, rfl, Nat.le_refl _, fun _ => rfl, by simp, fun ad h => (by cases h), by simp [hlen], ⟨0, by simp [Env.T, tokOf, hs.H], Nat.le_refl _⟩, fun _ ad h => (by cases h)⟩
  · rcases Nat.lt_or_ge i e.H.length with h | h
    · have ho' : e.H[i]? = some o := by simpa [List.getElem?_append_left h] using ho
      exact ObjSim.mono le (hs.ok.objs i o ho') (by simp [Nat.ne_of_lt h]) (fun _ _ => ⟨rfl, rfl⟩)
    · have hi : i = e.H.length := by have := lt_of_get? ho; simp at this; omega
      subst hi
      have : o = .tok 0 := by simpa using ho.symm
      subst this; trivial
  · have hi' : i < e.H.length + 1 := by simpa using hi
    have hj' : j < e.H.length + 1 := by simpa using hj
    simp only at h1 h2
    by_cases e1 : i = e.H.length
    · rw [if_pos e1] at h1; cases h1
    · by_cases e2 : j = e.H.length
      · rw [if_pos e2] at h2; cases h2
      · rw [if_neg e1] at h1; rw [if_neg e2] at h2; exact hs.ok.inj i j b (by omega) (by omega) h1 h2
  · have hi' : i < e.H.length + 1 := by simpa using hi
    simp only at h1
    by_cases e1 : i = e.H.length
    · rw [if_pos e1] at h1; cases h1
    · rw [if_neg e1] at h1; exact hs.ok.live i b (by omega) h1
  · refine ⟨hs.fr.size, hs.fr.still, hs.fr.heap, fun i b hi h1 => ?_, hs.fr.le.trans le⟩
    have hi' : i < e.H.length + 1 := by simpa using hi
    simp only at h1
    by_cases e1 : i = e.H.length
    · rw [if_pos e1] at h1; cases h1
    · rw [if_neg e1] at h1; exact hs.fr.objs i b (by omega) h1
def Env.grew (e : Env) (j b n g : Nat) (w' : World) : Env :=
  { H := e.H.set j (.tok n), μ := fun i => if i = j then some b else e.μ i, G := fun b' => if b' = b then g else e.G b', w := w' }
theorem Env.grew_T {e : Env} {j b n g : Nat} {w' : World} (hj : j < e.H.length) (i : Nat) : (e.grew j b n g w').T i = if i = j then some n else e.T i := by
  unfold Env.T Env.grew
  by_cases h : i = j
  · subst h; simp [List.getElem?_set_self hj, tokOf]
  · rw [if_neg h]; simp only [List.getElem?_set_ne (Ne.symm h)]
theorem Sim.grew {e : Env} {a : Act} (hs : Sim c s e a) {j b n n' g : Nat} {w' : World} (hst : Still e.w w') (hj : s.H[j]? = some (.tok n)) (hn : n < n')
    (hb : (e.μ j = some b ∧ b < e.w.heap.size) ∨ b = e.w.heap.size) (hg : e.G b ≤ g) (hsz : e.w.heap.size ≤ w'.heap.size) (hbs : b < w'.heap.size) (hold : ∀ b', b' < e.w.heap.size → b' ≠ b → w'.heap[b']? = e.w.heap[b']?)
    (hcell : ∀ off, off < e.G b → w'.cell? ⟨b, off, none⟩ = e.w.cell? ⟨b, off, none⟩) (hfresh : ∀ b', w'.heap.size ≤ b' → b' ≠ b) :
    Sim c { s with H := s.H.set j (.tok n') } (e.grew j b n' g w') a ∧ e.Le (e.grew j b n' g w') := by
  have hj' : e.H[j]? = some (.tok n) := by rw [hs.H]; exact hj
  have hjl := lt_of_get? hj'
  have hTj : e.T j = some n := by unfold Env.T; rw [hj']; rfl
  have hne : ∀ i, i < e.H.length → i ≠ j → e.μ i ≠ some b := by
    intro i hi hij hm
    rcases hb with ⟨h1, _⟩ | h1
    · exact hij (hs.ok.inj i j b hi hjl hm h1)
    · have := hs.ok.live i b hi hm; omega
  have le : e.Le (e.grew j b n' g w') := by
    refine ⟨by simp [Env.grew], fun i hi ht => ?_, fun b' off ho => ?_, fun i m ht => ?_⟩
    · have hij : i ≠ j := fun h => by subst h; rw [hTj] at ht; cases ht
      rw [Env.grew_T hjl, if_neg hij]
      exact ⟨ht, fun _ hb => by simpa [Env.grew, hij] using hb⟩
    · by_cases h : b' = b
      · subst h; exact ⟨by simp only [Env.grew, if_true]; omega, hcell off ho⟩
      · exact ⟨by simp only [Env.grew, if_neg h]; exact ho, cell?_of_heap (hold b' (G_lt hs.ok.fresh ho) h)⟩
    · have hi : i < e.H.length := by
        rcases Nat.lt_or_ge i e.H.length with k | k
        · exact k
        · unfold Env.T at ht; rw [List.getElem?_eq_none k] at ht; simp [tokOf] at ht
      by_cases hij : i = j
      · subst hij
        have : m = n := by rw [hTj] at ht; exact (Option.some.inj ht).symm
        subst this
        exact ⟨n', by rw [Env.grew_T hjl, if_pos rfl], by omega, fun h => by omega⟩
      · refine ⟨m, by rw [Env.grew_T hjl, if_neg hij]; exact ht, Nat.le_refl _, fun _ => ⟨by simp [Env.grew, hij], fun b' cs t hm hh => ?_⟩⟩
        have hbb : b' ≠ b := fun h => by subst h; exact hne i hi hij hm
        exact ⟨by simp [Env.grew, hbb], cs, (hold b' (hs.ok.live i b' hi hm) hbb).trans hh, rfl⟩
  refine ⟨⟨hs.size, fun t => Rep.mono le _ (hs.slots t), hs.defers.mono le, by simp [Env.grew, hs.H], ⟨fun b' hb' => ?_, fun i o ho => ?_, fun i k b' hi hk h1 h2 => ?_, fun i b' hi h1 => ?_,
    hs.ok.tabs.of hsz (fun b' hl hn => hold b' hl fun h => by
      subst h
      rcases hb with ⟨h1, _⟩ | h1
      · exact hn j hjl h1
      · omega) fun i b' hi h1 => by
      have hi' : i < e.H.length := by simpa [Env.grew] using hi
      simp only [Env.grew] at h1
      by_cases e1 : i = j
      · rw [if_pos e1] at h1; cases h1
        rcases hb with ⟨h1, _⟩ | h1
        · exact .inr ⟨j, hjl, h1⟩
        · exact .inl (by omega)
      · rw [if_neg e1] at h1; exact .inr ⟨i, hi', h1⟩⟩, ⟨Nat.le_trans hs.fr.size hsz, hs.fr.still.trans hst, fun b' hb' hn => ?_, fun i b' hi h1 => ?_, hs.fr.le.trans le⟩⟩, le⟩
  · simp only [Env.grew] at hb' ⊢
    rw [if_neg (hfresh b' hb')]; exact hs.ok.fresh b' (Nat.le_trans hsz hb')
  · by_cases hij : j = i
    · subst hij
      simp only [Env.grew, List.getElem?_set_self hjl, Option.some.injEq] at ho
      subst ho; trivial
    · simp only [Env.grew, List.getElem?_set_ne hij] at ho
      have hil := lt_of_get? ho
      refine ObjSim.mono le (hs.ok.objs i o ho) (by simp [Env.grew, Ne.symm hij]) (fun b' hb' => ?_)
      have hbb : b' ≠ b := fun h => by subst h; exact hne i hil (Ne.symm hij) hb'
      exact ⟨hold b' (hs.ok.live i b' hil hb') hbb, by simp [Env.grew, hbb]⟩
  · have hi' : i < e.H.length := by simpa [Env.grew] using hi
    have hk' : k < e.H.length := by simpa [Env.grew] using hk
    simp only [Env.grew] at h1 h2
    by_cases e1 : i = j <;> by_cases e2 : k = j
    · omega
    · rw [if_pos e1] at h1; rw [if_neg e2] at h2; cases h1; exact absurd h2 (hne k hk' e2)
    · rw [if_neg e1] at h1; rw [if_pos e2] at h2; cases h2; exact absurd h1 (hne i hi' e1)
    · rw [if_neg e1] at h1; rw [if_neg e2] at h2; exact hs.ok.inj i k b' hi' hk' h1 h2
  · have hi' : i < e.H.length := by simpa [Env.grew] using hi
    simp only [Env.grew] at h1 ⊢
    by_cases e1 : i = j
    · rw [if_pos e1] at h1; cases h1; exact hbs
    · rw [if_neg e1] at h1; exact Nat.lt_of_lt_of_le (hs.ok.live i b' hi' h1) hsz
  · obtain ⟨h1, h2⟩ := hs.fr.heap b' hb' hn
    have hbb : b' ≠ b := fun h => by
      subst h
      rcases hb with ⟨h3, _⟩ | h3
      · rcases hs.fr.objs j b' hjl h3 with h4 | ⟨k, hk, h4⟩
        · omega
        · exact hn k hk h4
      · have := hs.fr.size; omega
    exact ⟨(hold b' (Nat.lt_of_lt_of_le hb' hs.fr.size) hbb).trans h1, by simp only [Env.grew, if_neg hbb]; exact h2⟩
  · have hi' : i < e.H.length := by simpa [Env.grew] using hi
    simp only [Env.grew] at h1
    by_cases e1 : i = j
    · rw [if_pos e1] at h1; cases h1
      rcases hb with ⟨h3, _⟩ | h3
      · exact hs.fr.objs j b hjl h3
      · left; have := hs.fr.size; omega
    · rw [if_neg e1] at h1; exact hs.fr.objs i b' hi' h1
theorem sq_append {x y : Operand} {st xt et et' : TypeId} {j sz bytes : Nat} {es xs : List (List AV)} (hd : dOK c.nt d = true)
    (hf : SlFact c.P st et sz bytes) (hk : c.P.underlying xt = some (.slice et')) (hx : s.op x = .own j sz es) (hj : s.H[j]? = some (.tok es.length)) (hy : Less (s.op y) (.sl sz xs)) (hpos : 0 < xs.length)
    (hb : (es.length + xs.length) * bytes ≤ 140737488355328) (h63 : es.length + xs.length ≤ 9223372036854775807)
    (k : SeqWP c ops Q (i + 1) rest (St.put { s with H := s.H.set j (.tok (es ++ xs).length) } d (.own j sz (es ++ xs)))) : SeqWP c ops Q i (⟨d, .call ⟨.builtin .append, #[x, y], #[st, xt]⟩, t, p, af, none⟩ :: rest) s := by
  rw [List.length_append] at k
  refine sq_op fun e ac hs next hn' => ?_
  have hu := hs.op x
  rw [hx, Rep] at hu
  have hv := hy e _ (hs.op y)
  obtain ⟨a, len, cap, hv1, hlen, hle, hnil, hsz, hc, h7, h8, h9⟩ := hu
  subst hlen
  have hTj : e.T j = some es.length := by unfold Env.T; rw [hs.H, hj]; rfl
  have htail := h9 hTj
  have hjl : j < e.H.length := h7
  refine ⟨about_FW _ _ _ _ _, ?_⟩
  show Oper.uponIn (FW c.r) 0 c.P _ ac next (lift c Q) (((Oper.semAt c.r ac.eval ⟨d, .call ⟨.builtin .append, #[x, y], #[st, xt]⟩, t, p, af, none⟩)).run c.P e.w)
  rw [semAt_of (by intro c h; cases h)]
  have hex : (execOp ac.eval ⟨d, .call ⟨.builtin .append, #[x, y], #[st, xt]⟩, t, p, af, none⟩).run c.P e.w = ((Builtin.append_ #[st, xt] t #[.slice a es.length cap, ac.eval y]).run c.P e.w).andThen fun v w'' => .ok (.value v) w'' := by
    simp [execOp, resolve, invoke, builtin, hv1]
  rw [hex]
  by_cases hfit : es.length + xs.length ≤ cap
  · -- it fits
    obtain ⟨ti, z, k1, k2, ksz, rfl, k5, k6, k7⟩ := hf.ex
    subst ksz
    cases a with
    | none => have := hnil rfl; omega
    | some ad =>
      obtain ⟨hsp, hel⟩ := hc ad rfl
      obtain ⟨b, off, sp⟩ := ad
      have hsp := hsp (by omega); simp only at hsp; subst hsp
      obtain ⟨hm, hg, cs, ct, hh, hcs⟩ := htail _ rfl (by omega)
      dsimp only at hm hg hh hcs hel
      obtain ⟨news, hsrc, hnw⟩ := src_of hk hv
      have hbl := lt_of_heap hh
      have hnl : news.length = xs.length * ti.size := hsrc.newsLen
      have hxsz : ∀ q ∈ xs, q.length = ti.size := by rw [Rep] at hv; obtain ⟨_, _, _, _, _, _, _, h, _⟩ := hv; exact h
      have hroom : off + es.length * ti.size + news.length ≤ cs.size := by
        have h1 : (es.length + xs.length) * ti.size ≤ cap * ti.size := Nat.mul_le_mul_right _ hfit
        rw [Nat.add_mul] at h1
        omega
      have hst := run_storeCells_at (P := c.P) b (off + es.length * ti.size) ct news 0 cs e.w hh (by simpa using hroom) hsrc.one
      simp only [Nat.add_zero] at hst
      generalize hcs' : (cs.toList.take (off + es.length * ti.size) ++ news ++ cs.toList.drop (off + es.length * ti.size + news.length)).toArray = cs' at hst
      have hrun : (Builtin.append_ #[st, xt] t #[.slice (some ⟨b, off, none⟩) es.length cap, ac.eval y]).run c.P e.w = .ok (.slice (some ⟨b, off, none⟩) (es.length + xs.length) cap) (e.w.setRow b cs') := by
        rcases hsrc.kind with ⟨e', he'⟩ | he' <;> simp [Builtin.append_, run_und k1, run_und hk, run_size k2, hsrc.len, hfit, hsrc.cells, Addr.add_lit, hst]
      have hsize' : cs'.size = cs.size := by rw [← hcs']; simp; omega
      have hget : ∀ (m : Nat), m < off + es.length * ti.size → cs'[m]? = cs[m]? := fun m hmlt => by
        rw [← hcs']
        simp only [List.getElem?_toArray]
        rw [List.append_assoc, List.getElem?_append_left (by simp; omega), List.getElem?_take_of_lt hmlt]; simp
      obtain ⟨hsim, hle'⟩ := hs.grew (j := j) (b := b) (n := es.length) (n' := es.length + xs.length) (g := off + (es.length + xs.length) * ti.size) (w' := e.w.setRow b cs') ⟨rfl, rfl⟩ hj (by omega) (.inl ⟨hm, hbl⟩) (by rw [hg, Nat.add_mul]; omega) (by simp) (by simpa using hbl)
        (fun b' _ hne => setRow_other _ _ _ _ hne) (fun m hmlt => by
          rw [hg] at hmlt
          unfold World.cell?
          simp only [setRow_heap _ _ _ _ _ _ hh, hh]
          simpa using hget m hmlt) (fun b' hb' h => by subst h; simp at hb'; omega)
      rw [hrun]
      refine hn' _ _ _ k (hsim.put hd ?_)
      rw [Rep]
      refine ⟨_, _, _, rfl, by simp, hfit, (fun h => by cases h), fun q hq => ?_, fun ad had => ?_, by simpa [Env.grew] using hjl, ⟨es.length + xs.length, by rw [Env.grew_T hjl, if_pos rfl], by simp⟩, fun _ ad had hlt => ?_⟩
      · rcases List.mem_append.1 hq with h | h
        · exact hsz q h
        · exact hxsz q h
      · simp only [Option.some.injEq] at had; subst had
        refine ⟨fun _ => rfl, ElemsAt.append (ElemsAt.mono hle' es hel) hsz (ElemsAt.flat.2 ?_)⟩
        refine CellsAt.of_values (cs := cs') (t := ct) (fr := (0, 0)) (by simpa [Env.grew] using setRow_heap _ _ _ _ _ _ hh) (RepL.mono hle' _ hnw) hsrc.one (fun m q hm' => ?_) ?_
        · rw [← hcs']
          simp only [List.getElem?_toArray]
          have hml := lt_of_get? hm'
          rw [List.getElem?_append_left (by simp; omega), List.getElem?_append_right (by simp; omega)]
          rw [show off + es.length * ti.size + m - (cs.toList.take (off + es.length * ti.size)).length = m by simp; omega]
          exact hm'
        · simp only [Env.grew, if_true]; rw [hnl, Nat.add_mul]; omega
      · simp only [Option.some.injEq] at had; subst had
        exact ⟨by simp [Env.grew], by simp [Env.grew], cs', ct, by simpa [Env.grew] using setRow_heap _ _ _ _ _ _ hh, by dsimp only; omega⟩
  · -- it does not: a new row
    obtain ⟨cap', cs, w', hrun, hw, hst, hle2, hcs, hcells, hall⟩ := run_append_row (P := c.P) (t := t) (cap := cap) hs.ok hf hk rfl (fun h => by have := hnil h; omega) hsz (fun ad h => ⟨fun h2 => (hc ad h).1 (by omega), (hc ad h).2⟩) hv (by omega) hb h63
    have hwsz : w'.heap.size = e.w.heap.size + 1 := by simp [hw]
    obtain ⟨hsim, hle'⟩ := hs.grew (j := j) (b := e.w.heap.size) (n := es.length) (n' := es.length + xs.length) (g := (es.length + xs.length) * sz) (w' := w') hst hj (by omega) (.inr rfl) (by rw [hs.ok.fresh _ (Nat.le_refl _)]; omega) (by simp [hw]) (by simp [hw])
      (fun b' hb' hne => by rw [hw, Array.getElem?_push, if_neg hne]) (fun m hmlt => by rw [hs.ok.fresh _ (Nat.le_refl _)] at hmlt; omega) (fun b' hb' h => by omega)
    rw [hrun]
    refine hn' _ _ _ k (hsim.put hd ?_)
    rw [Rep]
    refine ⟨_, _, _, rfl, by simp, hle2, (fun h => by cases h), hall, fun ad had => ?_, by simpa [Env.grew] using hjl, ⟨es.length + xs.length, by rw [Env.grew_T hjl, if_pos rfl], by simp⟩, fun _ ad had hlt => ?_⟩
    · simp only [Option.some.injEq] at had; subst had
      refine ⟨fun _ => rfl, ElemsAt.flat.2 ?_⟩
      obtain ⟨vs, q1, q2, q3⟩ := hcells.values
      have hxt : Ext e (e.row ((es.length + xs.length) * sz) w') := Env.row_ext hs.ok hw hst
      have le3 : (e.row ((es.length + xs.length) * sz) w').Le (e.grew j e.w.heap.size (es.length + xs.length) ((es.length + xs.length) * sz) w') := by
        have hT : ∀ i, (e.row ((es.length + xs.length) * sz) w').T i = e.T i := fun i => rfl
        refine ⟨by simp [Env.grew, Env.row], fun i hi ht => ?_, fun b' off ho => ⟨ho, rfl⟩, fun i m ht => ?_⟩
        · rw [hT] at ht
          have hij : i ≠ j := fun h => by subst h; rw [hTj] at ht; cases ht
          rw [Env.grew_T hjl, if_neg hij]; exact ⟨ht, fun _ hb => by simpa [Env.grew, hij, Env.row] using hb⟩
        · rw [hT] at ht
          by_cases hij : i = j
          · subst hij
            have : m = es.length := by rw [hTj] at ht; exact (Option.some.inj ht).symm
            subst this
            exact ⟨_, by rw [Env.grew_T hjl, if_pos rfl], by omega, fun h => by omega⟩
          · exact ⟨m, by rw [Env.grew_T hjl, if_neg hij]; exact ht, Nat.le_refl _, fun _ => ⟨by simp [Env.grew, hij, Env.row], fun b' cs t _ hh => ⟨rfl, cs, hh, rfl⟩⟩⟩
      exact CellsAt.mono le3 _ hcells
    · simp only [Option.some.injEq] at had; subst had
      exact ⟨by simp [Env.grew], by simp [Env.grew], cs, et, by simp [Env.grew, hw], by simp [hcs]⟩
end tok
end Go.Ab
namespace Go.Ab
variable [Tabs]
theorem set_fold (off : Nat) : ∀ (vs : List Value) (j : Nat) (cs : Array Value), off + j + vs.length ≤ cs.size →
    ((vs.zipIdx j).foldl (fun (cs : Array Value) (q : Value × Nat) => cs.setIfInBounds (off + q.2) q.1) cs).toList = cs.toList.take (off + j) ++ vs ++ cs.toList.drop (off + j + vs.length)
  | [], j, cs, _ => by simp
  | v :: vs, j, cs, h => by
    simp only [List.zipIdx_cons, List.foldl_cons]
    rw [set_fold off vs (j + 1) _ (by simp at h ⊢; omega)]
    have hlt : off + j < cs.toList.length := by simp at h ⊢; omega
    have hset : (cs.setIfInBounds (off + j) v).toList = cs.toList.take (off + j) ++ v :: cs.toList.drop (off + j + 1) := by
      rw [Array.toList_setIfInBounds, List.set_eq_take_append_cons_drop, if_pos hlt]
    have hl : (cs.toList.take (off + j) ++ [v]).length = off + (j + 1) := by rw [List.length_append, List.length_take]; simp; simp at hlt; omega
    rw [hset, show cs.toList.take (off + j) ++ v :: cs.toList.drop (off + j + 1) = (cs.toList.take (off + j) ++ [v]) ++ cs.toList.drop (off + j + 1) by simp, List.take_left' hl]
    rw [← List.drop_drop (i := vs.length) (j := off + (j + 1)), List.drop_left' hl, List.drop_drop]
    simp only [List.append_assoc, List.cons_append, List.nil_append, List.length_cons]
    rw [show off + j + 1 + vs.length = off + j + (vs.length + 1) by omega]
theorem fold_splice {v : Value} {off : Nat} {cs : Array Value} (h : off + v.cells.size ≤ cs.size) :
    (v.cells.zipIdx.foldl (fun (cs : Array Value) (q : Value × Nat) => cs.setIfInBounds (off + q.2) q.1) cs).toList = cs.toList.take off ++ v.cells.toList ++ cs.toList.drop (off + v.cells.toList.length) := by
  have := set_fold off v.cells.toList 0 cs (by simpa using h)
  simp only [Nat.add_zero] at this
  rw [← this, ← Array.foldl_toList, Array.toList_zipIdx]
def afill (place : Nat → Option (Nat × Nat)) (cells : List AV) : List (Nat × AV) → Option (List AV)
  | [] => some cells
  | (i, a) :: rest =>
    match place i, a.cells with
    | some (off, size), some m => bif Nat.beq m.length size && Nat.ble (off + m.length) cells.length then afill place (cells.take off ++ m ++ cells.drop (off + m.length)) rest else none
    | _, _ => none
theorem fill_rep {e : Env} {place : Nat → Option (Nat × Nat)} : ∀ {parts : List (Nat × AV)} {vals : List (Nat × Value)} {l l' : List AV} {cs : Array Value},
    parts.length = vals.length → (∀ (k i : Nat) (a : AV), parts[k]? = some (i, a) → ∃ v : Value, vals[k]? = some (i, v) ∧ Rep e a v) → RepL e l cs.toList → (∀ c ∈ cs.toList, isCell c = true) →
    afill place l parts = some l' → ∃ cs', Instr.fill place cs vals = some cs' ∧ RepL e l' cs'.toList ∧ (∀ c ∈ cs'.toList, isCell c = true)
  | [], [], l, l', cs, _, _, h, h1, hf => by simp only [afill, Option.some.injEq] at hf; subst hf; exact ⟨cs, rfl, h, h1⟩
  | [], _ :: _, _, _, _, hl, _, _, _, _ => by simp at hl
  | _ :: _, [], _, _, _, hl, _, _, _, _ => by simp at hl
  | (i, a) :: parts, (i', v) :: vals, l, l', cs, hl, hp, h, h1, hf => by
    obtain ⟨v', hv1, hv2⟩ := hp 0 i a rfl
    simp only [List.getElem?_cons_zero, Option.some.injEq, Prod.mk.injEq] at hv1
    obtain ⟨rfl, rfl⟩ := hv1
    simp only [afill] at hf
    split at hf
    · rename_i off size m hpl hm
      cases hb : (Nat.beq m.length size && Nat.ble (off + m.length) l.length) with
      | false => rw [hb] at hf; cases hf
      | true =>
        rw [hb] at hf
        simp only [cond_true] at hf
        simp only [Bool.and_eq_true] at hb
        have hb1 := Nat.eq_of_beq_eq_true hb.1
        have hb2 := Nat.le_of_ble_eq_true hb.2
        obtain ⟨c1, c2⟩ := rep_cells hv2 hm
        have hlen := c1.length
        have hcl := h.length
        simp only [Array.length_toList] at hlen hcl
        have hsp := fold_splice (v := v) (off := off) (cs := cs) (by omega)
        obtain ⟨cs', k1, k2, k3⟩ := fill_rep (e := e) (place := place) (cs := v.cells.zipIdx.foldl (fun (cs : Array Value) (q : Value × Nat) => cs.setIfInBounds (off + q.2) q.1) cs) (parts := parts) (vals := vals) (by simpa using hl)
          (fun k i' a' hk => hp (k + 1) i' a' (by simpa using hk)) (by rw [hsp]; exact RepL.splice h c1 off) (by
            rw [hsp]; intro z hz
            simp only [List.mem_append] at hz
            rcases hz with (hz | hz) | hz
            · exact h1 z (List.mem_of_mem_take hz)
            · exact c2 z hz
            · exact h1 z (List.mem_of_mem_drop hz)) hf
        refine ⟨cs', ?_, k2, k3⟩
        simp only [Instr.fill, hpl]
        rw [if_neg (by simp; omega)]
        exact k1
    · cases hf
def fieldPlaces (P : Program) : List Field → Option (List (Nat × Nat))
  | [] => some []
  | f :: fs =>
    match P.info? f.type, fieldPlaces P fs with
    | some i, some l => some ((f.offset, i.size) :: l)
    | _, _ => none
theorem run_places {P : Program} {w : World} : ∀ {fs : List Field} {l : List (Nat × Nat)}, fieldPlaces P fs = some l → (fs.mapM (m := Sem) fun f => do pure (f.offset, ← sizeOf f.type)).run P w = .ok l w
  | [], l, h => by simp only [fieldPlaces, Option.some.injEq] at h; subst h; simp
  | f :: fs, l, h => by
    simp only [fieldPlaces] at h
    split at h
    · rename_i i l' hi hl
      simp only [Option.some.injEq] at h; subst h
      have ih := run_places (w := w) hl
      simp only [List.mapM_cons, Sem.run_bind, run_size hi, Result.andThen_ok, ih, Sem.run_pure]
    · cases h
def bldInfo (P : Program) (t : TypeId) : Option (List AV × Bool × List (Nat × Nat) × Nat) :=
  match zeroOf P t, P.underlying t with
  | some z, some (.struct fs) => match fieldPlaces P fs.toList with | some l => some (z, true, l, 0) | none => none
  | some z, some (.array _ e) => match P.info? e with | some i => some (z, false, [], i.size) | none => none
  | _, _ => none
def bldPlace (b : Bool) (l : List (Nat × Nat)) (sz i : Nat) : Option (Nat × Nat) := bif b then l[i]? else some (i * sz, sz)
theorem zeroOf_run {P : Program} {t : TypeId} {l : List AV} (h : zeroOf P t = some l) : ∃ z : Value, (∀ w, (zeroValue t).run P w = .ok z w) ∧ l = z.cells.toList.map .raw ∧ (∀ c ∈ z.cells.toList, isCell c = true) := by
  unfold zeroOf at h
  split at h
  · rename_i ti hti
    split at h
    · rename_i z hz
      cases hall : z.cells.toList.all isCell with
      | false => rw [hall] at h; cases h
      | true =>
        rw [hall] at h
        simp only [cond_true, Option.some.injEq] at h
        exact ⟨z, fun w => by simp [zeroValue, run_info hti, hz], h.symm, List.all_eq_true.1 hall⟩
    · cases h
  · cases h
section ops
variable {P : Program} {r : Option Nat} {H : List AObj} {ρ : Operand → AV}
variable {d : Option Tmp} {t : TypeId} {p : String} {af : Array Edge} {g : Option (Nat × Bool)}
variable {x y z : Operand}
theorem parts_get {e : Env} {ρc : Operand → Value} {parts : List (Nat × Operand)} (hs : ∀ q ∈ parts, Rep e (ρ q.2) (ρc q.2)) (k i : Nat) (a : AV) (h : (parts.map fun q => (q.1, ρ q.2))[k]? = some (i, a)) :
    ∃ v, (parts.map fun q => (q.1, ρc q.2))[k]? = some (i, v) ∧ Rep e a v := by
  simp only [List.getElem?_map, Option.map_eq_some_iff, Prod.mk.injEq] at h ⊢
  obtain ⟨q, hq, rfl, rfl⟩ := h
  exact ⟨ρc q.2, ⟨q, hq, rfl, rfl⟩, hs q (List.mem_of_getElem? hq)⟩
theorem ev_build {bt : TypeId} {parts : Array (Nat × Operand)} {z l : List AV} {b : Bool} {pl : List (Nat × Nat)} {sz : Nat} (hb : bldInfo P bt = some (z, b, pl, sz))
    (hl : afill (bldPlace b pl sz) z (parts.toList.map fun q => (q.1, ρ q.2)) = some l) : Ev P r ⟨d, .build bt parts, t, p, af, g⟩ H ρ (.agg l) :=
  Ev.pure (by intro c h; cases h) fun e ρc ok hE hs => by
    have hs' : ∀ q ∈ parts.toList, Rep e (ρ q.2) (ρc q.2) := fun q hq => hs q.2 (by simp only [Op.operands]; simp; exact ⟨q.1, by simpa using hq⟩)
    unfold bldInfo at hb
    split at hb
    · rename_i z' fs hz hu
      split at hb
      · rename_i l' hl'
        simp only [Option.some.injEq, Prod.mk.injEq] at hb
        obtain ⟨rfl, rfl, rfl, rfl⟩ := hb
        obtain ⟨zv, z1, rfl, z3⟩ := zeroOf_run hz
        obtain ⟨cs', k1, k2, k3⟩ := fill_rep (e := e) (cs := zv.cells) (place := bldPlace true l' 0) (vals := parts.toList.map fun q => (q.1, ρc q.2)) (by simp) (parts_get hs') (RepL.raws _) z3 hl
        refine ⟨.agg cs', ?_, by rw [Rep]; exact ⟨cs', rfl, k2, k3⟩⟩
        have hm : (fs.mapM (m := Sem) fun f => do pure (f.offset, ← sizeOf f.type)).run P e.w = .ok l'.toArray e.w := by
          rw [Array.mapM_eq_mapM_toList, Sem.run_map, run_places hl']; rfl
        have hfun : (fun i => l'.toArray[i]?) = bldPlace true l' 0 := by funext i; simp [bldPlace]
        simp only [execOp, Instr.build, Sem.run_bind, z1, Result.andThen_ok, run_und hu, hm, Array.toList_map]
        rw [hfun]
        have k1' : Instr.fill (bldPlace true l' 0) zv.cells (parts.toList.map fun q => (q.1, ρc q.2)) = some cs' := k1
        simp [k1']
      · cases hb
    · rename_i z' n et hz hu
      split at hb
      · rename_i ti hti
        simp only [Option.some.injEq, Prod.mk.injEq] at hb
        obtain ⟨rfl, rfl, rfl, rfl⟩ := hb
        obtain ⟨zv, z1, rfl, z3⟩ := zeroOf_run hz
        obtain ⟨cs', k1, k2, k3⟩ := fill_rep (e := e) (cs := zv.cells) (place := bldPlace false [] ti.size) (vals := parts.toList.map fun q => (q.1, ρc q.2)) (by simp) (parts_get hs') (RepL.raws _) z3 hl
        refine ⟨.agg cs', ?_, by rw [Rep]; exact ⟨cs', rfl, k2, k3⟩⟩
        have hfun : (fun i => some (i * ti.size, ti.size)) = bldPlace false [] ti.size := by funext i; simp [bldPlace]
        simp only [execOp, Instr.build, Sem.run_bind, z1, Result.andThen_ok, run_und hu, run_size hti, Array.toList_map]
        rw [hfun]
        have k1' : Instr.fill (bldPlace false [] ti.size) zv.cells (parts.toList.map fun q => (q.1, ρc q.2)) = some cs' := k1
        simp [k1']
      · cases hb
    · cases hb
def elemsOf (sz : Nat) : List AV → Option (List (List AV))
  | [] => some []
  | a :: l =>
    match a.cells, elemsOf sz l with
    | some m, some es => bif Nat.beq m.length sz then some (m :: es) else none
    | _, _ => none
theorem ev_extract {i : Nat} {l : List AV} {v : AV} (hx : Less (ρ x) (.tup l)) (hv : l[i]? = some v) : Ev P r ⟨d, .extract x i, t, p, af, g⟩ H ρ v :=
  Ev.pure (by intro c h; cases h) fun e ρc ok hE hs => by
    have := hx e _ (hs x (by simp [Op.operands]))
    rw [Rep] at this
    obtain ⟨cs, hc, h2⟩ := this
    obtain ⟨u, h3, h4⟩ := h2.get i v hv
    have h5 : cs[i]? = some u := by simpa using h3
    exact ⟨u, by simp [execOp, Instr.extract, hc, h5], h4⟩
theorem run_part {ft : TypeId} {b : Bool} {n : Nat} {w : World} {cs : Array Value} {off : Nat} (ht : tySz P ft = some (b, n)) :
    (part ft cs off).run P w = if b then .ok (.agg (cs.extract off (off + n))) w else match cs[off]? with | some v => .ok v w | none => .halt (.stuck "part: no such cell") w := by
  obtain ⟨h1, h2⟩ := run_tyAgg (w := w) ht
  cases b
  · simp only [part, Sem.run_bind, h1, Result.andThen_ok, Bool.false_eq_true, if_false]
    cases cs[off]? <;> rfl
  · simp [part, h1, h2]
theorem ev_indexv {xt et : TypeId} {len sz k n : Nat} {l : List AV} {v : AV} {ik : IntKind} {m : Int} (ht : arrElem P xt = some (len, et, sz)) (hz : tySz P et = some (false, n)) (hx : Less (ρ x) (.agg l)) (hy : Less (ρ y) (.raw (.int ik m)))
    (hm : m = (k : Int)) (hk : k < len) (hv : l[k * sz]? = some v) : Ev P r ⟨d, .index xt x y, t, p, af, g⟩ H ρ v :=
  Ev.pure (by intro c h; cases h) fun e ρc ok hE hs => by
    subst hm
    obtain ⟨h1, ti, h2, rfl⟩ := arrElem_und ht
    have e2 := rep_raw hy (hs y (by simp [Op.operands]))
    have := hx e _ (hs x (by simp [Op.operands]))
    rw [Rep] at this
    obtain ⟨cs, hc, h3, _⟩ := this
    obtain ⟨u, h4, h5⟩ := h3.get _ v hv
    have h6 : cs[k * ti.size]? = some u := by simpa using h4
    exact ⟨u, by simp [execOp, Instr.index, e2, asIntOf, run_und h1, hc, run_size h2, hk, run_part hz, h6], h5⟩
theorem ev_min2 {k : IntKind} {m n : Int} {ats : Array TypeId} (hx : Less (ρ x) (.raw (.int k m))) (hy : Less (ρ y) (.raw (.int k n))) : Ev P r ⟨d, .call ⟨.builtin .min, #[x, y], ats⟩, t, p, af, g⟩ H ρ (.raw (.int k (min m n))) :=
  Ev.pure (by intro c h; cases h) fun e ρc ok hE hs => by
    have e1 := rep_raw hx (hs x (by simp [Op.operands, Call.operands]))
    have e2 := rep_raw hy (hs y (by simp [Op.operands, Call.operands]))
    refine ⟨.int k (if n < m then n else m), by simp [execOp, resolve, invoke, builtin, Builtin.min_, Builtin.min2, e1, e2], ?_⟩
    rw [Rep]; congr 1; split <;> omega
theorem ev_max2 {k : IntKind} {m n : Int} {ats : Array TypeId} (hx : Less (ρ x) (.raw (.int k m))) (hy : Less (ρ y) (.raw (.int k n))) : Ev P r ⟨d, .call ⟨.builtin .max, #[x, y], ats⟩, t, p, af, g⟩ H ρ (.raw (.int k (max m n))) :=
  Ev.pure (by intro c h; cases h) fun e ρc ok hE hs => by
    have e1 := rep_raw hx (hs x (by simp [Op.operands, Call.operands]))
    have e2 := rep_raw hy (hs y (by simp [Op.operands, Call.operands]))
    refine ⟨.int k (if n > m then n else m), by simp [execOp, resolve, invoke, builtin, Builtin.max_, Builtin.max2, e1, e2], ?_⟩
    rw [Rep]; congr 1; split <;> omega
theorem ev_makeFunc {f : Fn} {first cap : Array Operand} : Ev P r ⟨d, .makeFunc f first cap, t, p, af, g⟩ H ρ (.fn f (first.toList.map ρ) (cap.toList.map ρ)) :=
  Ev.pure (by intro c h; cases h) fun e ρc ok hE hs => by
    refine ⟨.func f (first.map ρc) (cap.map ρc), by simp [execOp, Instr.makeFunc], ?_⟩
    rw [Rep]
    refine ⟨_, _, rfl, ?_, ?_⟩
    · simpa using RepL.mapped fun q hq => hs q (by simp [Op.operands]; exact .inl (by simpa using hq))
    · simpa using RepL.mapped fun q hq => hs q (by simp [Op.operands]; exact .inr (by simpa using hq))
def notIface (P : Program) (t : TypeId) : Bool :=
  match P.underlying t with
  | some (.interface _) => false
  | some _ => true
  | none => false
theorem ev_makeIface {xt : TypeId} {a : AV} (ht : notIface P xt = true) (hx : Less (ρ x) a) : Ev P r ⟨d, .makeInterface xt x, t, p, af, g⟩ H ρ (.ifc xt a) :=
  Ev.pure (by intro c h; cases h) fun e ρc ok hE hs => by
    refine ⟨.iface xt (ρc x), ?_, by rw [Rep]; exact ⟨_, rfl, hx e _ (hs x (by simp [Op.operands]))⟩⟩
    unfold notIface at ht
    split at ht
    · cases ht
    · rename_i dd hne hd
      simp only [execOp, Instr.makeInterface, Sem.run_bind, run_und hd, Result.andThen_ok]
      cases dd <;> first | (exact absurd rfl (hne _)) | rfl
    · cases ht
theorem RepL.anys {e : Env} : ∀ (vs : List Value), RepL e (List.replicate vs.length .any) vs
  | [] => RepL.nil
  | v :: vs => RepL.cons (by rw [Rep]; trivial) (RepL.anys vs)
theorem elemsOf_sz {sz : Nat} : ∀ {l : List AV} {es : List (List AV)}, elemsOf sz l = some es → ∀ c ∈ es, c.length = sz
  | [], es, h => by simp only [elemsOf, Option.some.injEq] at h; subst h; simp
  | a :: l, es, h => by
    simp only [elemsOf] at h
    split at h
    · rename_i m es' hm hes
      cases hb : Nat.beq m.length sz with
      | false => rw [hb] at h; cases h
      | true =>
        rw [hb] at h
        simp only [cond_true, Option.some.injEq] at h
        subst h
        intro c hc
        rcases List.mem_cons.1 hc with e1 | e1
        · subst e1; exact Nat.eq_of_beq_eq_true hb
        · exact elemsOf_sz hes c e1
    · cases h
theorem ev_buildSlice {xt et : TypeId} {sz bytes len : Nat} {parts : Array (Nat × Operand)} {es : List (List AV)} (hf : SlFact P xt et sz bytes)
    (hes : elemsOf sz (parts.toList.map fun q => ρ q.2) = some es) (hlen : Nat.beq es.length len = true) (hsm : Nat.ble (len * sz) 16777216 = true)
    (hfill : afill (bldPlace false [] sz) (List.replicate (len * sz) .any) (parts.toList.map fun q => (q.1, ρ q.2)) = some es.flatten) :
    Ev P r ⟨d, .buildSlice xt len parts, t, p, af, g⟩ H ρ (.slx sz es) :=
  Ev.of_run (by intro c h; cases h) fun e ρc ok hE hs => by
    have hs' : ∀ q ∈ parts.toList, Rep e (ρ q.2) (ρc q.2) := fun q hq => hs q.2 (by simp only [Op.operands]; simp; exact ⟨q.1, by simpa using hq⟩)
    obtain ⟨ti, z, h1, h2, rfl, rfl, k5, k6, k7⟩ := hf.ex
    have hlen := Nat.eq_of_beq_eq_true hlen
    have hsm := Nat.le_of_ble_eq_true hsm
    have hzr : (zeroValue et).run P e.w = .ok z e.w := by simp [zeroValue, run_info h2, k5]
    have hzlen : (Builtin.zeroCells z.cells len).toList.length = len * ti.size := by simp [Builtin.zeroCells, k7]
    obtain ⟨cs', f1, f2, f3⟩ := fill_rep (e := e) (cs := Builtin.zeroCells z.cells len) (place := bldPlace false [] ti.size) (vals := parts.toList.map fun q => (q.1, ρc q.2)) (by simp) (parts_get hs')
      (by rw [← hzlen]; exact RepL.anys _) (zeroCells_cell k6 len) hfill
    have hcl := f2.length
    have hesz := elemsOf_sz hes
    have hlen' : cs'.toList.length = len * ti.size := by rw [hcl, flatten_len hesz, hlen]
    refine ⟨.slice (some ⟨e.w.heap.size, 0, none⟩) len len, e.row cs'.toList.length (e.w.alloc (.cells cs' et)), ?_, Env.row_ext ok rfl (by exact ⟨rfl, rfl⟩), ?_⟩
    · have hfun : (fun i => some (i * ti.size, ti.size)) = bldPlace false [] ti.size := by funext i; simp [bldPlace]
      have f1' : Instr.fill (bldPlace false [] ti.size) (Builtin.zeroCells z.cells len) (parts.toList.map fun q => (q.1, ρc q.2)) = some cs' := f1
      simp only [execOp, Instr.buildSlice, Sem.run_bind, run_und h1, Result.andThen_ok, run_size h2]
      rw [if_neg (by omega), hfun]
      have hzc : Builtin.zeroCells z.cells len = (Array.range (len * ti.size)).map (fun i => z.cells[i % z.cells.size]!) := by unfold Builtin.zeroCells; rw [k7]
      by_cases h0 : len * ti.size = 0
      · have h00 : Builtin.zeroCells z.cells len = #[] := Array.eq_empty_of_size_eq_zero (by simp [Builtin.zeroCells, k7, h0])
        have hr0 : ∀ f : Nat → Value, (Array.range 0).map f = #[] := fun f => Array.eq_empty_of_size_eq_zero (by simp)
        rw [h00] at f1'
        simp [h0, hr0, f1', newRow, Env.row]
      · rw [hzc] at f1'
        simp [h0, hzr, f1', newRow, Env.row]
    · rw [Rep]
      refine ⟨_, len, rfl, hlen.symm, (fun h => by cases h), hesz, fun ad had => ?_⟩
      simp only [Option.some.injEq] at had
      subst had
      exact ⟨fun _ => rfl, ElemsAt.flat.2 (cells_row ok (vs := cs'.toList) (cs := cs') (fr := (0, 0)) rfl (by exact ⟨rfl, rfl⟩) f2 f3 (fun j v hj => by simpa using hj))⟩
end ops
end Go.Ab
namespace Go.Ab
variable [Tabs]
inductive Deed where
  | val (v : AV)
  | skip
  | fresh (l : List AV) (id : Nat)
def guardIs (ops : Array Oper) (nt : Nat) (s : St) (o : Oper) (yes : Bool) : Prop :=
  match o.guard with
  | none => yes = true
  | some (j, want) => ∃ t v, gslot ops j = some t ∧ Nat.blt t nt = true ∧ Less (sget s.sl t) (.raw v) ∧ boolIs v want = yes
def DValid (c : Ctx) (H0 : List AObj) (ops : Array Oper) : Nat → St → List Deed → St → Prop
  | _, s, [], sf => sf = s
  | i, s, a :: as, sf => ∃ o, ops[i]? = some o ∧ dOK c.nt o.dst = true ∧
    match a with
    | .val v => guardIs ops c.nt s o true ∧ Ev c.P c.r o H0 s.op v ∧ DValid c H0 ops (i + 1) (s.put o.dst v) as sf
    | .skip => guardIs ops c.nt s o false ∧ DValid c H0 ops (i + 1) (s.put o.dst (.raw (.tuple #[]))) as sf
    | .fresh l id => o.guard = none ∧ id = s.H.length ∧ (∃ d bt t p af, o = ⟨d, .alloc bt, t, p, af, none⟩ ∧ zeroOf c.P bt = some l) ∧ DValid c H0 ops (i + 1) (St.put { s with H := s.H ++ [.cells l] } o.dst (.ptr id 0)) as sf
def DR (c : Ctx) (H0 : List AObj) (ops : Array Oper) (Q : AExit → St → Prop) (m i : Nat) (l : List Oper) (s : St) : Prop :=
  ops.toList.drop i = l → ∃ as sf, i + as.length = m ∧ DValid c H0 ops i s as sf ∧ SeqWP c ops Q m (ops.toList.drop m) sf
section rules
variable {c : Ctx} {H0 : List AObj} {ops : Array Oper} {Q : AExit → St → Prop} {m i : Nat} {s : St} {rest : List Oper}
variable {d : Option Tmp} {op : Op} {t : TypeId} {p : String} {af : Array Edge}
theorem dr_end {l : List Oper} (h : SeqWP c ops Q i l s) : DR c H0 ops Q i i l s := fun hd => ⟨[], s, by simp, rfl, by rw [hd]; exact h⟩
theorem dr_ev {v : AV} (hd : dOK c.nt d = true) (hv : Ev c.P c.r ⟨d, op, t, p, af, none⟩ H0 s.op v) (k : DR c H0 ops Q m (i + 1) rest (s.put d v)) : DR c H0 ops Q m i (⟨d, op, t, p, af, none⟩ :: rest) s := by
  intro hdr
  obtain ⟨ho, hr⟩ := drop_cons hdr
  obtain ⟨as, sf, h1, h2, h3⟩ := k hr
  exact ⟨.val v :: as, sf, by simp; omega, ⟨⟨d, op, t, p, af, none⟩, by simpa using ho, hd, (rfl : true = true), hv, h2⟩, h3⟩
theorem dr_split {l : List Oper} (u : Nat) {b : Bool} (_hb : Less (sget s.sl u) (.raw (.bool b))) (h1 : b = true → DR c H0 ops Q m i l s) (h2 : b = false → DR c H0 ops Q m i l s) : DR c H0 ops Q m i l s := by
  cases b
  · exact h2 rfl
  · exact h1 rfl
theorem dr_yes {j u : Nat} {want : Bool} {v : AV} (hj : gslot ops j = some u) (ht : Nat.blt u c.nt = true)
    (hb : Less (sget s.sl u) (.raw (.bool want))) (hd : dOK c.nt d = true) (hv : Ev c.P c.r ⟨d, op, t, p, af, some (j, want)⟩ H0 s.op v) (k : DR c H0 ops Q m (i + 1) rest (s.put d v)) :
    DR c H0 ops Q m i (⟨d, op, t, p, af, some (j, want)⟩ :: rest) s := by
  intro hdr
  obtain ⟨ho, hr⟩ := drop_cons hdr
  obtain ⟨as, sf, h1, h2, h3⟩ := k hr
  exact ⟨.val v :: as, sf, by simp; omega, ⟨⟨d, op, t, p, af, some (j, want)⟩, by simpa using ho, hd, ⟨u, .bool want, hj, ht, hb, by simp [boolIs]⟩, hv, h2⟩, h3⟩
theorem dr_no {j u : Nat} {want : Bool} {v : Value} (hj : gslot ops j = some u) (ht : Nat.blt u c.nt = true)
    (hb : Less (sget s.sl u) (.raw v)) (hv : boolIs v want = false) (hd : dOK c.nt d = true) (k : DR c H0 ops Q m (i + 1) rest (s.put d (.raw (.tuple #[])))) :
    DR c H0 ops Q m i (⟨d, op, t, p, af, some (j, want)⟩ :: rest) s := by
  intro hdr
  obtain ⟨ho, hr⟩ := drop_cons hdr
  obtain ⟨as, sf, h1, h2, h3⟩ := k hr
  exact ⟨.skip :: as, sf, by simp; omega, ⟨⟨d, op, t, p, af, some (j, want)⟩, by simpa using ho, hd, ⟨u, v, hj, ht, hb, hv⟩, h2⟩, h3⟩
theorem dr_alloc {bt : TypeId} {l : List AV} (hd : dOK c.nt d = true) (hz : zeroOf c.P bt = some l)
    (k : DR c H0 ops Q m (i + 1) rest (St.put { s with H := s.H ++ [.cells l] } d (.ptr s.H.length 0))) : DR c H0 ops Q m i (⟨d, .alloc bt, t, p, af, none⟩ :: rest) s := by
  intro hdr
  obtain ⟨ho, hr⟩ := drop_cons hdr
  obtain ⟨as, sf, h1, h2, h3⟩ := k hr
  exact ⟨.fresh l s.H.length :: as, sf, by simp; omega, ⟨⟨d, .alloc bt, t, p, af, none⟩, by simpa using ho, hd, rfl, rfl, ⟨d, bt, t, p, af, rfl, hz⟩, h2⟩, h3⟩
end rules
def opTmps (o : Oper) : List Tmp := o.op.operands.toList.filterMap fun | .tmp t => some t | _ => none
def guardTmp (ops : Array Oper) (o : Oper) : List Tmp := match o.guard with | some (j, _) => (gslot ops j).toList | none => []
def edgesOK (ops : Array Oper) : Bool := (List.range ops.size).all fun i => match ops[i]? with
  | some o => o.after.toList.all fun e => !Region.binds .any e || Nat.blt e.on i
  | none => true
def tailOK (ops : Array Oper) (b : Array Nat) (m : Nat) : Bool := (List.range ops.size).all fun i => Nat.blt i m || (List.range i).all fun j => (b.getD i 0).testBit j
def tmpsOK (ops : Array Oper) (b : Array Nat) (m : Nat) : Bool := (List.range m).all fun i => match ops[i]? with
  | some o => (opTmps o ++ guardTmp ops o).all fun t => (List.range m).all fun j => match (ops[j]?).bind (·.dst) with
      | some d => !Nat.beq d t || (Nat.blt j i && (b.getD i 0).testBit j)
      | none => true
  | none => false
def dstsOK (ops : Array Oper) (m : Nat) : Bool := (List.range m).all fun i => (List.range m).all fun j => Nat.beq i j || match (ops[i]?).bind (·.dst), (ops[j]?).bind (·.dst) with
  | some d, some d' => !Nat.beq d d'
  | _, _ => true
def bOK (ops : Array Oper) (b : Array Nat) : Bool := (List.range ops.size).all fun i => (List.range ops.size).all fun k => !(b.getD i 0).testBit k || match ops[i]? with
  | some o => o.after.toList.any fun e => Region.binds .any e && (Nat.beq e.on k || (b.getD e.on 0).testBit k)
  | none => false
def drawOK (ops : Array Oper) (m : Nat) : Bool := let b := Region.before ops; Nat.ble m ops.size && bOK ops b && edgesOK ops && tailOK ops b m && tmpsOK ops b m && dstsOK ops m
def dstOf (ops : Array Oper) (j : Nat) : Option Tmp := (ops[j]?).bind (·.dst)
theorem sget_put_ne {s : St} {d : Option Tmp} {v : AV} {t : Tmp} (h : d ≠ some t) : sget (s.put d v).sl t = sget s.sl t := by
  cases d with
  | none => rfl
  | some u =>
    simp only [St.put, sget]
    cases hb : u == t with
    | true => exact absurd (congrArg some (by simpa using hb)) h
    | false => rfl
theorem sget_put_eq {s : St} {v : AV} {t : Tmp} : sget (s.put (some t) v).sl t = v := by simp [St.put, sget]
structure DFact (c : Ctx) (H0 : List AObj) (ops : Array Oper) (j : Nat) (a : Deed) (s sf : St) : Prop where
  ex : ∃ o, ops[j]? = some o ∧ dOK c.nt o.dst = true ∧
    match a with
    | .val v => guardIs ops c.nt s o true ∧ Ev c.P c.r o H0 s.op v ∧ (∀ t, o.dst = some t → sget sf.sl t = v)
    | .skip => guardIs ops c.nt s o false ∧ (∀ t, o.dst = some t → sget sf.sl t = .raw (.tuple #[]))
    | .fresh l id => o.guard = none ∧ (∃ d bt t p af, o = ⟨d, .alloc bt, t, p, af, none⟩ ∧ zeroOf c.P bt = some l) ∧ (∀ t, o.dst = some t → sget sf.sl t = .ptr id 0) ∧ sf.H[id]? = some (.cells l)
theorem dvalid_facts {c : Ctx} {H0 : List AObj} {ops : Array Oper} : ∀ (as : List Deed) (i : Nat) (s sf : St), DValid c H0 ops i s as sf →
    (∀ j j', i ≤ j → j < i + as.length → i ≤ j' → j' < i + as.length → j ≠ j' → ∀ t, dstOf ops j = some t → dstOf ops j' ≠ some t) →
    sf.df = s.df ∧ (∃ X, sf.H = s.H ++ X) ∧ (∀ t, (∀ j, i ≤ j → j < i + as.length → dstOf ops j ≠ some t) → sget sf.sl t = sget s.sl t) ∧
    (∀ (k : Nat) (a : Deed), as[k]? = some a → ∃ s', DFact c H0 ops (i + k) a s' sf ∧ (∀ t, (∀ j, i + k ≤ j → j < i + as.length → dstOf ops j ≠ some t) → sget sf.sl t = sget s'.sl t)) ∧
    (∀ (k : Nat) (l : List AV) (id : Nat), as[k]? = some (Deed.fresh l id) → s.H.length ≤ id ∧ id < sf.H.length) ∧
    (∀ (k k' : Nat) (l l' : List AV) (id id' : Nat), k < k' → as[k]? = some (Deed.fresh l id) → as[k']? = some (Deed.fresh l' id') → id < id') ∧
    (∀ id, s.H.length ≤ id → id < sf.H.length → ∃ (k : Nat) (l : List AV), as[k]? = some (Deed.fresh l id))
  | [], i, s, sf, h, _ => by
    have : sf = s := h
    subst this
    exact ⟨rfl, ⟨[], by simp⟩, fun _ _ => rfl, fun k a h => by simp at h, fun k l id h => by simp at h, fun k k' l l' id id' _ h => by simp at h, fun id h1 h2 => by omega⟩
  | a :: as, i, s, sf, h, hd => by
    obtain ⟨o, ho, hdk, h⟩ := h
    have hlen : (a :: as).length = as.length + 1 := rfl
    have hdo : dstOf ops i = o.dst := by unfold dstOf; rw [ho]; rfl
    have hd' : ∀ j j', i + 1 ≤ j → j < i + 1 + as.length → i + 1 ≤ j' → j' < i + 1 + as.length → j ≠ j' → ∀ t, dstOf ops j = some t → dstOf ops j' ≠ some t :=
      fun j j' h1 h2 h3 h4 => hd j j' (by omega) (by omega) (by omega) (by omega)
    have hown : ∀ t, o.dst = some t → ∀ j, i + 1 ≤ j → j < i + 1 + as.length → dstOf ops j ≠ some t := fun t ht j h1 h2 => hd i j (Nat.le_refl _) (by omega) (by omega) (by omega) (by omega) t (by rw [hdo]; exact ht)
    have key : ∀ (s1 : St) (v : AV), (∃ X, s1.H = s.H ++ X) → s1.df = s.df → (∀ t, o.dst ≠ some t → sget s1.sl t = sget s.sl t) → (∀ t, o.dst = some t → sget s1.sl t = v) → DValid c H0 ops (i + 1) s1 as sf →
        (∀ (hsf : ∀ t, o.dst = some t → sget sf.sl t = v) (hH : ∃ X, sf.H = s1.H ++ X), DFact c H0 ops i a s sf) → (∀ l id, a = Deed.fresh l id → s.H.length = id ∧ s1.H.length = id + 1) → ((∀ l id, a ≠ Deed.fresh l id) → s1.H = s.H) →
        sf.df = s.df ∧ (∃ X, sf.H = s.H ++ X) ∧ (∀ t, (∀ j, i ≤ j → j < i + (a :: as).length → dstOf ops j ≠ some t) → sget sf.sl t = sget s.sl t) ∧
        (∀ (k : Nat) (b : Deed), (a :: as)[k]? = some b → ∃ s', DFact c H0 ops (i + k) b s' sf ∧ (∀ t, (∀ j, i + k ≤ j → j < i + (a :: as).length → dstOf ops j ≠ some t) → sget sf.sl t = sget s'.sl t)) ∧
        (∀ (k : Nat) (l : List AV) (id : Nat), (a :: as)[k]? = some (Deed.fresh l id) → s.H.length ≤ id ∧ id < sf.H.length) ∧
        (∀ (k k' : Nat) (l l' : List AV) (id id' : Nat), k < k' → (a :: as)[k]? = some (Deed.fresh l id) → (a :: as)[k']? = some (Deed.fresh l' id') → id < id') ∧
        (∀ id, s.H.length ≤ id → id < sf.H.length → ∃ (k : Nat) (l : List AV), (a :: as)[k]? = some (Deed.fresh l id)) := by
      intro s1 v hX hdf hne heq hval hfact hnew hold
      obtain ⟨ih1, ⟨X, ih2⟩, ih3, ih4, ih5, ih6, ih7⟩ := dvalid_facts as (i + 1) s1 sf hval hd'
      obtain ⟨Y, hY⟩ := hX
      have hsl : ∀ t, (∀ j, i ≤ j → j < i + (a :: as).length → dstOf ops j ≠ some t) → sget sf.sl t = sget s.sl t := fun t ht => by
        rw [ih3 t (fun j h1 h2 => ht j (by omega) (by omega))]
        exact hne t (fun e => ht i (Nat.le_refl _) (by omega) (by rw [hdo]; exact e))
      have hle : s.H.length ≤ s1.H.length := by rw [hY]; simp
      refine ⟨ih1.trans hdf, ⟨Y ++ X, by rw [ih2, hY, List.append_assoc]⟩, hsl, fun k b hk => ?_, fun k l id hk => ?_, fun k k' l l' id id' hkk hk hk' => ?_, fun id h1 h2 => ?_⟩
      · cases k with
        | zero =>
          simp only [List.getElem?_cons_zero, Option.some.injEq] at hk
          subst hk
          exact ⟨s, hfact (fun t ht => by rw [ih3 t (hown t ht)]; exact heq t ht) ⟨X, ih2⟩, hsl⟩
        | succ k =>
          obtain ⟨s', h1, h2⟩ := ih4 k b (by simpa using hk)
          exact ⟨s', by rw [show i + (k + 1) = i + 1 + k by omega]; exact h1, fun t ht => h2 t (fun j h3 h4 => ht j (by omega) (by omega))⟩
      · cases k with
        | zero =>
          simp only [List.getElem?_cons_zero, Option.some.injEq] at hk
          obtain ⟨h1, h2⟩ := hnew l id hk
          have : s1.H.length ≤ sf.H.length := by rw [ih2]; simp
          exact ⟨by omega, by omega⟩
        | succ k =>
          obtain ⟨h1, h2⟩ := ih5 k l id (by simpa using hk)
          exact ⟨by omega, h2⟩
      · cases k with
        | zero =>
          simp only [List.getElem?_cons_zero, Option.some.injEq] at hk
          obtain ⟨h1, h2⟩ := hnew l id hk
          cases k' with
          | zero => omega
          | succ k' => have := (ih5 k' l' id' (by simpa using hk')).1; omega
        | succ k =>
          cases k' with
          | zero => omega
          | succ k' => exact ih6 k k' l l' id id' (by omega) (by simpa using hk) (by simpa using hk')
      · rcases Nat.lt_or_ge id s1.H.length with h3 | h3
        · cases a with
          | fresh l id0 =>
            obtain ⟨h4, h5⟩ := hnew l id0 rfl
            have : id = id0 := by omega
            subst this
            exact ⟨0, l, rfl⟩
          | val v => rw [hold (by intro l id e; cases e)] at h3; omega
          | skip => rw [hold (by intro l id e; cases e)] at h3; omega
        · obtain ⟨k, l, hk⟩ := ih7 id h3 h2
          exact ⟨k + 1, l, by simpa using hk⟩
    cases a with
    | val v =>
      obtain ⟨hg, hev, hval⟩ := h
      refine key (s.put o.dst v) v ⟨[], by cases o.dst <;> simp [St.put]⟩ (by cases o.dst <;> rfl) (fun t ht => sget_put_ne ht) (fun t ht => by rw [ht]; exact sget_put_eq) hval (fun hsf _ => ⟨o, ho, hdk, hg, hev, hsf⟩) (fun l id e => by cases e) (fun _ => by cases o.dst <;> rfl)
    | skip =>
      obtain ⟨hg, hval⟩ := h
      refine key (s.put o.dst (.raw (.tuple #[]))) (.raw (.tuple #[])) ⟨[], by cases o.dst <;> simp [St.put]⟩ (by cases o.dst <;> rfl) (fun t ht => sget_put_ne ht) (fun t ht => by rw [ht]; exact sget_put_eq) hval (fun hsf _ => ⟨o, ho, hdk, hg, hsf⟩) (fun l id e => by cases e) (fun _ => by cases o.dst <;> rfl)
    | fresh l id =>
      obtain ⟨hg, hid, hex, hval⟩ := h
      refine key (St.put { s with H := s.H ++ [.cells l] } o.dst (.ptr id 0)) (.ptr id 0) ⟨[.cells l], by cases o.dst <;> simp [St.put]⟩ (by cases o.dst <;> rfl) (fun t ht => sget_put_ne ht) (fun t ht => by rw [ht]; exact sget_put_eq) hval
        (fun hsf ⟨X, hH⟩ => ⟨o, ho, hdk, hg, hex, hsf, ?_⟩) (fun l' id' e => by cases e; exact ⟨hid.symm, by cases o.dst <;> simp [St.put, hid]⟩) (fun hn => absurd rfl (hn l id))
      rw [hH]
      have : (St.put { s with H := s.H ++ [.cells l] } o.dst (.ptr id 0)).H = s.H ++ [.cells l] := by cases o.dst <;> rfl
      rw [this, hid, List.append_assoc, List.getElem?_append_right (Nat.le_refl _)]
      simp
end Go.Ab
namespace Go.Ab
variable [Tabs]
def isIn (listed : Array Bool) (j : Nat) : Bool := listed.getD j false
theorem isIn_set {listed : Array Bool} {i j : Nat} (hi : i < listed.size) : isIn (listed.setIfInBounds i true) j = (isIn listed j || decide (j = i)) := by
  unfold isIn
  simp only [Array.getD_eq_getD_getElem?]
  by_cases h : j = i
  · subst h; simp [hi]
  · rw [Array.getElem?_setIfInBounds_ne (Ne.symm h)]; simp [h]
def left (listed : Array Bool) : Nat → Nat
  | 0 => 0
  | n + 1 => left listed n + if isIn listed n then 0 else 1
theorem left_set_ge {listed : Array Bool} {i : Nat} (hi : i < listed.size) : ∀ n, n ≤ i → left (listed.setIfInBounds i true) n = left listed n
  | 0, _ => rfl
  | n + 1, h => by
    simp only [left]
    rw [left_set_ge hi n (by omega), isIn_set hi]
    have : decide (n = i) = false := by simp; omega
    rw [this, Bool.or_false]
theorem left_set {listed : Array Bool} {i : Nat} (hi : i < listed.size) (hn : isIn listed i = false) : ∀ n, i < n → left (listed.setIfInBounds i true) n + 1 = left listed n
  | 0, h => by omega
  | n + 1, h => by
    simp only [left]
    by_cases e : i = n
    · subst e
      rw [left_set_ge hi i (Nat.le_refl _), isIn_set hi, hn]; simp
    · have := left_set hi hn n (by omega)
      rw [isIn_set hi]
      have h2 : decide (n = i) = false := by simp; omega
      rw [h2, Bool.or_false]; omega
theorem left_zero {listed : Array Bool} : ∀ n, left listed n = 0 → ∀ j, j < n → isIn listed j = true
  | 0, _, j, h => by omega
  | n + 1, h, j, hj => by
    simp only [left] at h
    by_cases e : j = n
    · subst e
      cases hb : isIn listed j with
      | true => rfl
      | false => rw [hb] at h; simp at h
    · exact left_zero n (by omega) j (by omega)
theorem left_init (n : Nat) : ∀ k, k ≤ n → left (Array.replicate n false) k = k
  | 0, _ => rfl
  | k + 1, h => by
    simp only [left]
    rw [left_init n k (by omega)]
    have : isIn (Array.replicate n false) k = false := by
      unfold isIn; rw [Array.getD_eq_getD_getElem?, Array.getElem?_replicate]; split <;> rfl
    rw [this]; simp
theorem mem_ready' {ops : Array Oper} {listed : Array Bool} (hsz : listed.size = ops.size) {i : Nat} : i ∈ Region.ready .any ops listed ↔
    i < ops.size ∧ isIn listed i = false ∧ ∀ o, ops[i]? = some o → ∀ e ∈ o.after.toList, Region.binds .any e = true → isIn listed e.on = true := by
  unfold Region.ready isIn
  simp only [List.mem_filter, List.mem_range, Bool.and_eq_true, Bool.not_eq_true']
  constructor
  · rintro ⟨h1, h2, h3⟩
    refine ⟨h1, ?_, fun o ho e he hb => ?_⟩
    · simp only [Array.getD_eq_getD_getElem?] at h2 ⊢
      have : i < listed.size := by omega
      simpa [this] using h2
    · rw [ho] at h3
      simp only [Option.map_some, Option.getD_some, Array.all_eq_true_iff_forall_mem] at h3
      have := h3 e (by simpa using he)
      simpa [hb] using this
  · rintro ⟨h1, h2, h3⟩
    refine ⟨h1, ?_, ?_⟩
    · simp only [Array.getD_eq_getD_getElem?] at h2 ⊢
      have : i < listed.size := by omega
      simpa [this] using h2
    · have ho : ops[i]? = some ops[i] := by simp [h1]
      rw [ho]
      simp only [Option.map_some, Option.getD_some, Array.all_eq_true_iff_forall_mem]
      intro e he
      by_cases hb : Region.binds .any e = true
      · have := h3 _ ho e (by simpa using he) hb
        simp [this]
      · simp [hb]
structure Checked (ops : Array Oper) (b : Array Nat) (m : Nat) : Prop where
  le : m ≤ ops.size
  bok : ∀ i k, i < ops.size → k < ops.size → (b.getD i 0).testBit k = true → ∃ o, ops[i]? = some o ∧ ∃ e ∈ o.after.toList, Region.binds .any e = true ∧ (e.on = k ∨ (b.getD e.on 0).testBit k = true)
  edges : ∀ i o, ops[i]? = some o → ∀ e ∈ o.after.toList, Region.binds .any e = true → e.on < i
  tail : ∀ i j, i < ops.size → m ≤ i → j < i → (b.getD i 0).testBit j = true
  tmps : ∀ i o, i < m → ops[i]? = some o → ∀ t, t ∈ opTmps o ∨ t ∈ guardTmp ops o → ∀ j, j < m → dstOf ops j = some t → j < i ∧ (b.getD i 0).testBit j = true
  dsts : ∀ i j, i < m → j < m → i ≠ j → ∀ t, dstOf ops i = some t → dstOf ops j ≠ some t
theorem checked_of {ops : Array Oper} {m : Nat} (h : drawOK ops m = true) : Checked ops (Region.before ops) m := by
  unfold drawOK at h
  simp only [Bool.and_eq_true] at h
  obtain ⟨⟨⟨⟨⟨h1, h2⟩, h3⟩, h4⟩, h5⟩, h6⟩ := h
  refine ⟨Nat.le_of_ble_eq_true h1, fun i k hi hk hb => ?_, fun i o ho e he hb => ?_, fun i j hi hm hj => ?_, fun i o hi ho t ht j hj hd => ?_, fun i j hi hj hne t hd hd' => ?_⟩
  · have := List.all_eq_true.1 (List.all_eq_true.1 h2 i (List.mem_range.2 hi)) k (List.mem_range.2 hk)
    rw [hb] at this
    simp only [Bool.not_true, Bool.false_or] at this
    split at this
    · rename_i o ho
      obtain ⟨e, he, hx⟩ := List.any_eq_true.1 this
      simp only [Bool.and_eq_true, Bool.or_eq_true] at hx
      exact ⟨o, ho, e, he, hx.1, hx.2.imp Nat.eq_of_beq_eq_true id⟩
    · cases this
  · have hi : i < ops.size := (Array.getElem?_eq_some_iff.1 ho).1
    have := List.all_eq_true.1 h3 i (List.mem_range.2 hi)
    rw [ho] at this
    have := List.all_eq_true.1 this e he
    rw [hb] at this
    simpa [Nat.blt_eq] using this
  · have := List.all_eq_true.1 h4 i (List.mem_range.2 hi)
    have hn : Nat.blt i m = false := by
      cases hb : Nat.blt i m with
      | false => rfl
      | true => have : i < m := by simpa [Nat.blt_eq] using hb
                omega
    rw [hn, Bool.false_or] at this
    exact List.all_eq_true.1 this j (List.mem_range.2 hj)
  · have h7 := List.all_eq_true.1 h5 i (List.mem_range.2 hi)
    rw [ho] at h7
    have h8 := List.all_eq_true.1 (List.all_eq_true.1 h7 t (List.mem_append.2 ht)) j (List.mem_range.2 hj)
    unfold dstOf at hd
    rw [hd] at h8
    simp only [Nat.beq_refl, Bool.not_true, Bool.false_or, Bool.and_eq_true] at h8
    exact ⟨by simpa [Nat.blt_eq] using h8.1, h8.2⟩
  · have h7 := List.all_eq_true.1 (List.all_eq_true.1 h6 i (List.mem_range.2 hi)) j (List.mem_range.2 hj)
    have hn : Nat.beq i j = false := by
      cases hb : Nat.beq i j with
      | false => rfl
      | true => exact absurd (Nat.eq_of_beq_eq_true hb) hne
    unfold dstOf at hd hd'
    rw [hn, hd, hd'] at h7
    simp at h7
def Closed (ops : Array Oper) (b : Array Nat) (listed : Array Bool) : Prop := ∀ j k, j < ops.size → k < ops.size → isIn listed j = true → (b.getD j 0).testBit k = true → isIn listed k = true
theorem ready_before {ops : Array Oper} {b : Array Nat} {m : Nat} (hc : Checked ops b m) {listed : Array Bool} (hsz : listed.size = ops.size) (hcl : Closed ops b listed) {i : Nat} (hi : i ∈ Region.ready .any ops listed) {k : Nat} (hk : k < ops.size)
    (hb : (b.getD i 0).testBit k = true) : isIn listed k = true := by
  obtain ⟨h1, h2, h3⟩ := (mem_ready' hsz).1 hi
  obtain ⟨o, ho, e, he, hbd, hor⟩ := hc.bok i k h1 hk hb
  have hl := h3 o ho e he hbd
  rcases hor with h | h
  · rw [← h]; exact hl
  · have he2 := hc.edges i o ho e he hbd
    exact hcl e.on k (by omega) hk hl h
theorem closed_set {ops : Array Oper} {b : Array Nat} {m : Nat} (hc : Checked ops b m) {listed : Array Bool} (hsz : listed.size = ops.size) (hcl : Closed ops b listed) {i : Nat} (hi : i ∈ Region.ready .any ops listed) :
    Closed ops b (listed.setIfInBounds i true) := by
  have h1 := ((mem_ready' hsz).1 hi).1
  intro j k hj hk hin hb
  rw [isIn_set (by omega)] at hin ⊢
  simp only [Bool.or_eq_true, decide_eq_true_eq] at hin ⊢
  rcases hin with h | h
  · exact .inl (hcl j k hj hk h hb)
  · subst h; exact .inl (ready_before hc hsz hcl hi hk hb)
theorem tail_forced {F : Fence} {n : Nat} {P : Program} {ops : Array Oper} {b : Array Nat} {m : Nat} {Q : Exit → Act → World → Prop} (hc : Checked ops b m) : ∀ (d k : Nat) (fuel : Nat) (listed : Array Bool) (a : Act) (w : World),
    k + d = ops.size → m ≤ k → listed.size = ops.size → Closed ops b listed → (∀ j, j < ops.size → (isIn listed j = true ↔ j < k)) → left listed ops.size ≤ fuel → wpOpsIn F n P ops Q (List.range' k d) a w → wpAnyIn F n P .any ops Q fuel listed a w
  | 0, k, fuel, listed, a, w, hk, _, hsz, _, hl, _, h => by
    have hnone : Region.ready .any ops listed = [] := by
      apply List.eq_nil_iff_forall_not_mem.2
      intro i hi
      obtain ⟨h1, h2, _⟩ := (mem_ready' hsz).1 hi
      have := (hl i h1).2 (by omega)
      rw [h2] at this; cases this
    have hq : Q .normal a w := by simpa [wpOpsIn] using h
    cases fuel with
    | zero => exact ⟨hnone, hq⟩
    | succ fuel => exact ⟨fun _ => hq, fun i hi => by rw [hnone] at hi; cases hi⟩
  | d + 1, k, fuel, listed, a, w, hk, hm, hsz, hcl, hl, hf, h => by
    have hkn : k < ops.size := by omega
    have hkin : isIn listed k = false := by
      cases hb : isIn listed k with
      | false => rfl
      | true => have := (hl k hkn).1 hb; omega
    have hready : ∀ i, i ∈ Region.ready .any ops listed → i = k := by
      intro i hi
      obtain ⟨h1, h2, _⟩ := (mem_ready' hsz).1 hi
      rcases Nat.lt_trichotomy i k with h3 | h3 | h3
      · have := (hl i h1).2 h3; rw [h2] at this; cases this
      · exact h3
      · have := ready_before hc hsz hcl hi hkn (hc.tail i k h1 (by omega) h3)
        rw [hkin] at this; cases this
    have hkr : k ∈ Region.ready .any ops listed := by
      refine (mem_ready' hsz).2 ⟨hkn, hkin, fun o ho e he hb => ?_⟩
      have := hc.edges k o ho e he hb
      exact (hl e.on (by omega)).2 this
    have hpos : 0 < left listed ops.size := by
      rcases Nat.eq_zero_or_pos (left listed ops.size) with h0 | h0
      · have := left_zero _ h0 k hkn; rw [hkin] at this; cases this
      · exact h0
    cases fuel with
    | zero => omega
    | succ fuel =>
      refine ⟨fun hn => (by rw [hn] at hkr; cases hkr), fun i hi => ?_⟩
      have := hready i hi
      subst this
      rw [List.range'_succ, wpOpsIn_cons] at h
      refine wpOpIn_mono (fun a w h' => ?_) h
      refine tail_forced hc d (i + 1) fuel (listed.setIfInBounds i true) a w (by omega) (by omega) (by simpa using hsz) (closed_set hc hsz hcl hi) (fun j hj => ?_) ?_ h'
      · rw [isIn_set (by omega)]
        simp only [Bool.or_eq_true, decide_eq_true_eq, hl j hj]
        omega
      · have := left_set (by omega) hkin ops.size hkn
        omega
section walk
variable {c : Ctx} {ops : Array Oper} {b : Array Nat} {m : Nat} {as : List Deed} {s sf : St}
structure PS (c : Ctx) (ops : Array Oper) (m : Nat) (as : List Deed) (s sf : St) (listed : Array Bool) (e : Env) (a : Act) : Prop where
  size : a.tmps.size = c.nt
  defers : DRepL e s.df a.defers
  ok : EnvOK e
  fr : Fr c.e0 e
  slots : ∀ t, (∀ j, j < m → dstOf ops j = some t → isIn listed j = true) → Rep e (sget sf.sl t) (a.tmps.getD t undef)
  len : e.H.length = sf.H.length
  pre : s.H <+: e.H
  news : ∀ (k : Nat) (l : List AV) (id : Nat), as[k]? = some (Deed.fresh l id) → (isIn listed k = true → e.H[id]? = some (.cells l)) ∧ (isIn listed k = false → e.H[id]? = some .dead ∧ e.μ id = none)
theorem EnvOK.drew {e : Env} (ok : EnvOK e) : Ext e { e with w := { e.w with drawn := e.w.drawn + 1 } } :=
  ⟨rfl, fun _ _ => rfl, Nat.le_refl _, ⟨rfl, rfl⟩, fun _ _ => rfl, fun _ _ => rfl, ok.fresh⟩
theorem ps_start {e : Env} {a : Act} (hs : Sim c s e a) (hX : ∃ X, sf.H = s.H ++ X) (hsl : ∀ t, (∀ j, j < m → dstOf ops j ≠ some t) → sget sf.sl t = sget s.sl t)
    (hids : ∀ (k : Nat) (l : List AV) (id : Nat), as[k]? = some (Deed.fresh l id) → s.H.length ≤ id ∧ id < sf.H.length) (n : Nat) :
    ∃ e', e'.w = { e.w with drawn := e.w.drawn + 1 } ∧ PS c ops m as s sf (Array.replicate n false) e' a := by
  obtain ⟨X, hX⟩ := hX
  have hs1 := hs.ext (EnvOK.drew hs.ok)
  generalize he1 : ({ e with w := { e.w with drawn := e.w.drawn + 1 } } : Env) = e1 at hs1
  have hw : e1.w = { e.w with drawn := e.w.drawn + 1 } := by rw [← he1]
  obtain ⟨e2, he2⟩ : ∃ e2 : Env, e2 = { H := e1.H ++ List.replicate X.length .dead, μ := fun i => if i < e1.H.length then e1.μ i else none, G := e1.G, w := e1.w } := ⟨_, rfl⟩
  have hT : ∀ i, e2.T i = e1.T i := fun i => by
    rw [he2]; unfold Env.T
    rcases Nat.lt_or_ge i e1.H.length with h | h
    · simp [List.getElem?_append_left h]
    · rw [List.getElem?_append_right h, List.getElem?_eq_none h, List.getElem?_replicate]
      split <;> rfl
  have le : e1.Le e2 := by
    refine ⟨by rw [he2]; simp, fun i hi ht => ⟨by rw [hT]; exact ht, fun _ hb => by rw [he2]; simpa [hi] using hb⟩, fun b off ho => by rw [he2]; exact ⟨ho, rfl⟩, fun i n ht => ⟨n, by rw [hT]; exact ht, Nat.le_refl _, fun _ => ?_⟩⟩
    have hi : i < e1.H.length := by
      rcases Nat.lt_or_ge i e1.H.length with k | k
      · exact k
      · unfold Env.T at ht; rw [List.getElem?_eq_none k] at ht; simp [tokOf] at ht
    rw [he2]
    exact ⟨by simp [hi], fun b cs t _ hh => ⟨rfl, cs, hh, rfl⟩⟩
  have hlt : ∀ i, i < e2.H.length → ∀ b, e2.μ i = some b → i < e1.H.length ∧ e1.μ i = some b := fun i _ b hb => by
    rw [he2] at hb
    simp only at hb
    by_cases h : i < e1.H.length
    · rw [if_pos h] at hb; exact ⟨h, hb⟩
    · rw [if_neg h] at hb; cases hb
  refine ⟨e2, by rw [he2]; exact hw, hs1.size, hs1.defers.mono le, ⟨by rw [he2]; exact hs1.ok.fresh, fun i o ho => ?_, fun i j b hi hj h1 h2 => ?_, fun i b hi h1 => ?_, hs1.ok.tabs.sub (by rw [he2]) fun i b hi h1 => ⟨i, (hlt i hi b h1).1, (hlt i hi b h1).2⟩⟩, ⟨by rw [he2]; exact hs1.fr.size, by rw [he2]; exact hs1.fr.still, by rw [he2]; exact hs1.fr.heap, fun i b hi h1 => ?_, hs1.fr.le.trans le⟩, fun t ht => ?_, ?_, ?_, fun k l id hk => ⟨fun h => ?_, fun _ => ?_⟩⟩
  · rcases Nat.lt_or_ge i e1.H.length with h | h
    · have ho' : e1.H[i]? = some o := by rw [he2] at ho; simpa [List.getElem?_append_left h] using ho
      exact ObjSim.mono le (hs1.ok.objs i o ho') (by rw [he2]; simp [h]) (fun _ _ => by rw [he2]; exact ⟨rfl, rfl⟩)
    · rw [he2] at ho
      simp only [List.getElem?_append_right h, List.getElem?_replicate] at ho
      split at ho
      · simp only [Option.some.injEq] at ho; subst ho; trivial
      · cases ho
  · obtain ⟨g1, g2⟩ := hlt i hi b h1
    obtain ⟨g3, g4⟩ := hlt j hj b h2
    exact hs1.ok.inj i j b g1 g3 g2 g4
  · obtain ⟨g1, g2⟩ := hlt i hi b h1
    have := hs1.ok.live i b g1 g2
    rw [he2]; exact this
  · obtain ⟨g1, g2⟩ := hlt i hi b h1
    exact hs1.fr.objs i b g1 g2
  · rw [hsl t (fun j hj hd => by have := ht j hj hd; unfold isIn at this; rw [Array.getD_eq_getD_getElem?, Array.getElem?_replicate] at this; split at this <;> cases this)]
    exact Rep.mono le _ (hs1.slots t)
  · rw [he2, hX]; simp [hs1.H]
  · rw [he2, hs1.H]; exact List.prefix_append _ _
  · unfold isIn at h; rw [Array.getD_eq_getD_getElem?, Array.getElem?_replicate] at h; split at h <;> cases h
  · obtain ⟨g1, g2⟩ := hids k l id hk
    rw [he2]
    simp only [hs1.H]
    refine ⟨?_, by rw [if_neg (by omega)]⟩
    rw [List.getElem?_append_right g1, List.getElem?_replicate, if_pos (by rw [hX] at g2; simp at g2; omega)]
def Env.place (e : Env) (id : Nat) (l : List AV) (ob : Obj) : Env :=
  { H := e.H.set id (.cells l), μ := fun i => if i = id then some e.w.heap.size else e.μ i, G := e.G, w := e.w.alloc ob }
theorem Env.place_T {e : Env} {id : Nat} {l : List AV} {ob : Obj} (hd : e.H[id]? = some .dead) (i : Nat) : (e.place id l ob).T i = e.T i := by
  unfold Env.T Env.place
  by_cases h : id = i
  · subst h; simp [List.getElem?_set_self (lt_of_get? hd), hd, tokOf]
  · simp only [List.getElem?_set_ne h]
theorem Env.place_le {e : Env} (ok : EnvOK e) {id : Nat} {l : List AV} {ob : Obj} (hd : e.H[id]? = some .dead) (hμ : e.μ id = none) : e.Le (e.place id l ob) := by
  refine ⟨by simp [Env.place], fun i _ ht => ⟨by rw [Env.place_T hd]; exact ht, fun b hb => ?_⟩, fun b off ho => ⟨ho, cell?_of_heap (alloc_heap_old _ _ (G_lt ok.fresh ho))⟩, fun i n ht => ⟨n, by rw [Env.place_T hd]; exact ht, Nat.le_refl _, fun _ => ?_⟩⟩
  · have : i ≠ id := fun h => by subst h; rw [hμ] at hb; cases hb
    simpa [Env.place, this] using hb
  · have hid : i ≠ id := fun h => by subst h; unfold Env.T at ht; rw [hd] at ht; cases ht
    have hi : i < e.H.length := by
      rcases Nat.lt_or_ge i e.H.length with k | k
      · exact k
      · unfold Env.T at ht; rw [List.getElem?_eq_none k] at ht; simp [tokOf] at ht
    exact ⟨by simp [Env.place, hid], fun b cs t hm hh => ⟨rfl, cs, (alloc_heap_old _ _ (ok.live i b hi hm)).trans hh, rfl⟩⟩
theorem Env.place_ok {e : Env} (ok : EnvOK e) (fr : Fr c.e0 e) {id : Nat} {l : List AV} {cs : Array Value} {bt : TypeId} (hd : e.H[id]? = some .dead) (hμ : e.μ id = none) (hl : RepL e l cs.toList) (h1 : ∀ z ∈ cs.toList, isCell z = true) :
    EnvOK (e.place id l (.cells cs bt)) ∧ Fr c.e0 (e.place id l (.cells cs bt)) := by
  have hidl := lt_of_get? hd
  have le := Env.place_le ok (l := l) (ob := .cells cs bt) hd hμ
  refine ⟨⟨fun b hb => ok.fresh b (by have : e.w.heap.size + 1 ≤ b := by simpa [Env.place] using hb
                                      omega), fun i o ho => ?_, fun i j b hi hj h2 h3 => ?_, fun i b hi h2 => ?_,
    ok.tabs.of (by simp [Env.place]) (fun b hb _ => alloc_heap_old _ _ hb) fun i b hi h2 => by
      have hi' : i < e.H.length := by simpa [Env.place] using hi
      simp only [Env.place] at h2
      by_cases e1 : i = id
      · rw [if_pos e1] at h2; simp at h2; left; omega
      · rw [if_neg e1] at h2; exact .inr ⟨i, hi', h2⟩⟩, ⟨by have := fr.size; simp [Env.place]; omega, fr.still.trans ⟨rfl, rfl⟩, fun b hb hn => ?_, fun i b hi h2 => ?_, fr.le.trans le⟩⟩
  · by_cases h : id = i
    · subst h
      simp only [Env.place, List.getElem?_set_self hidl, Option.some.injEq] at ho
      subst ho
      exact ⟨e.w.heap.size, cs, bt, by simp [Env.place], ok.fresh _ (Nat.le_refl _), alloc_heap_new _ _, RepL.mono le l hl, h1⟩
    · simp only [Env.place, List.getElem?_set_ne h] at ho
      exact ObjSim.mono le (ok.objs i o ho) (by simp [Env.place, Ne.symm h]) (fun b hb => ⟨alloc_heap_old _ _ (ok.live i b (lt_of_get? ho) hb), rfl⟩)
  · have hi' : i < e.H.length := by simpa [Env.place] using hi
    have hj' : j < e.H.length := by simpa [Env.place] using hj
    simp only [Env.place] at h2 h3
    by_cases e1 : i = id <;> by_cases e2 : j = id
    · omega
    · rw [if_pos e1] at h2; rw [if_neg e2] at h3; have := ok.live j b hj' h3; simp at h2; omega
    · rw [if_neg e1] at h2; rw [if_pos e2] at h3; have := ok.live i b hi' h2; simp at h3; omega
    · rw [if_neg e1] at h2; rw [if_neg e2] at h3; exact ok.inj i j b hi' hj' h2 h3
  · have hi' : i < e.H.length := by simpa [Env.place] using hi
    simp only [Env.place] at h2 ⊢
    by_cases e1 : i = id
    · rw [if_pos e1] at h2; simp at h2; simp; omega
    · rw [if_neg e1] at h2; have := ok.live i b hi' h2; simp; omega
  · obtain ⟨h2, h3⟩ := fr.heap b hb hn
    exact ⟨(alloc_heap_old _ _ (Nat.lt_of_lt_of_le hb fr.size)).trans h2, h3⟩
  · have hi' : i < e.H.length := by simpa [Env.place] using hi
    simp only [Env.place] at h2
    by_cases e1 : i = id
    · rw [if_pos e1] at h2; have := fr.size; simp at h2; left; omega
    · rw [if_neg e1] at h2; exact fr.objs i b hi' h2
theorem mem_opTmps {o : Oper} {t : Tmp} (h : Operand.tmp t ∈ o.op.operands.toList) : t ∈ opTmps o := by
  unfold opTmps
  exact List.mem_filterMap.2 ⟨_, h, rfl⟩
theorem guard_wanted {o : Oper} {s' : St} {yes : Bool} {a : Act} {e : Env} (hsz : a.tmps.size = c.nt) (hg : guardIs ops c.nt s' o yes) (hs : ∀ t, t ∈ guardTmp ops o → Rep e (sget s'.sl t) (a.tmps.getD t undef)) :
    Region.wanted o (yielded ops a.tmps) = yes := by
  unfold guardIs at hg
  unfold Region.wanted
  cases hgd : o.guard with
  | none => rw [hgd] at hg; simp only at hg; rw [hg]
  | some jw =>
    obtain ⟨j, want⟩ := jw
    rw [hgd] at hg
    obtain ⟨t, v, h1, h2, h3, h4⟩ := hg
    have ht : t ∈ guardTmp ops o := by unfold guardTmp; rw [hgd]; simp [h1]
    have hy := yielded_is (ops := ops) (e := e) (v := v) h1 (by rw [hsz]; simpa [Nat.blt_eq] using h2) (h3 _ _ (hs t ht)) want
    simp only [hy, h4]
theorem ps_step (hc : Checked ops b m) (hlen : as.length = m) {Q : Exit → Act → World → Prop}
    (hfacts : ∀ (k : Nat) (d : Deed), as[k]? = some d → ∃ s', DFact c s.H ops k d s' sf ∧ (∀ t, (∀ j, k ≤ j → j < m → dstOf ops j ≠ some t) → sget sf.sl t = sget s'.sl t))
    (hids : ∀ (k : Nat) (l : List AV) (id : Nat), as[k]? = some (Deed.fresh l id) → s.H.length ≤ id ∧ id < sf.H.length)
    (hdist : ∀ (k k' : Nat) (l l' : List AV) (id id' : Nat), k < k' → as[k]? = some (Deed.fresh l id) → as[k']? = some (Deed.fresh l' id') → id < id')
    {listed : Array Bool} (hsz : listed.size = ops.size) (hcl : Closed ops b listed) {i : Nat} (hi : i ∈ Region.ready .any ops listed) (him : i < m) {e : Env} {a : Act} (hp : PS c ops m as s sf listed e a)
    {K : Act → World → Prop} (hK : ∀ e' a', PS c ops m as s sf (listed.setIfInBounds i true) e' a' → K a' e'.w) : wpOpIn (FW c.r) 0 c.P ops Q i K a e.w := by
  obtain ⟨hin, hnl, _⟩ := (mem_ready' hsz).1 hi
  have hil : i < listed.size := by omega
  have hget : ∃ d, as[i]? = some d := ⟨as[i]'(by omega), by simp [hlen, him]⟩
  obtain ⟨d, hd⟩ := hget
  obtain ⟨s', hf, hs'⟩ := hfacts i d hd
  obtain ⟨o, ho, hdk, hdeed⟩ := hf.ex
  have hdo : dstOf ops i = o.dst := by unfold dstOf; rw [ho]; rfl
  have hread : ∀ t, t ∈ opTmps o ∨ t ∈ guardTmp ops o → sget sf.sl t = sget s'.sl t ∧ Rep e (sget s'.sl t) (a.tmps.getD t undef) := by
    intro t ht
    have h1 : sget sf.sl t = sget s'.sl t := hs' t (fun j hj hjm hdj => by have := (hc.tmps i o him ho t ht j hjm hdj).1; omega)
    refine ⟨h1, ?_⟩
    rw [← h1]
    refine hp.slots t (fun j hjm hdj => ?_)
    obtain ⟨_, hb⟩ := hc.tmps i o him ho t ht j hjm hdj
    exact ready_before hc hsz hcl hi (Nat.lt_of_lt_of_le hjm hc.le) hb
  have hops : ∀ x ∈ o.op.operands.toList, Rep e (s'.op x) (a.eval x) := by
    intro x hx
    cases x with
    | tmp t => exact (hread t (.inl (mem_opTmps hx))).2
    | const v => exact ofV_rep e v
    | global g => simp only [St.op]; rw [Rep]; rfl
    | func f => simp only [St.op]; rw [Rep]; exact ⟨#[], #[], rfl, RepL.nil, RepL.nil⟩
  have hputsz : ∀ (dd : Option Tmp) (u : Value), (a.put dd u).tmps.size = c.nt := fun dd u => by cases dd <;> simp [Act.put, hp.size]
  have hputdf : ∀ (dd : Option Tmp) (u : Value), DRepL e s.df (a.put dd u).defers := fun dd u => by cases dd <;> exact hp.defers
  have hslots : ∀ (e' : Env) (u : Value) (v : AV), (∀ av w, Rep e av w → Rep e' av w) → (∀ t, o.dst = some t → sget sf.sl t = v) → Rep e' v u →
      ∀ t, (∀ j, j < m → dstOf ops j = some t → isIn (listed.setIfInBounds i true) j = true) → Rep e' (sget sf.sl t) ((a.put o.dst u).tmps.getD t undef) := by
    intro e' u v hmono hv hu t ht
    by_cases hdt : o.dst = some t
    · rw [hv t hdt, hdt]
      have htn : t < a.tmps.size := by rw [hp.size]; rw [hdt] at hdk; simpa [dOK, Nat.blt_eq] using hdk
      simp only [Act.put]
      rw [Array.getD_eq_getD_getElem?, Array.getElem?_setIfInBounds_self_of_lt htn]
      exact hu
    · have hold : Rep e (sget sf.sl t) (a.tmps.getD t undef) := by
        refine hp.slots t (fun j hjm hdj => ?_)
        have := ht j hjm hdj
        rw [isIn_set hil] at this
        simp only [Bool.or_eq_true, decide_eq_true_eq] at this
        rcases this with h | h
        · exact h
        · subst h; rw [hdo] at hdj; exact absurd hdj hdt
      have heq : (a.put o.dst u).tmps.getD t undef = a.tmps.getD t undef := by
        cases hod : o.dst with
        | none => rfl
        | some u' =>
          have hne : u' ≠ t := fun h => hdt (by rw [hod, h])
          simp only [Act.put, Array.getD_eq_getD_getElem?]
          rw [Array.getElem?_setIfInBounds_ne hne]
      rw [heq]; exact hmono _ _ hold
  have hnews : ∀ (e' : Env), e'.H = e.H → (∀ id, s.H.length ≤ id → id < e.H.length → e'.μ id = e.μ id) → (∀ l id, d ≠ Deed.fresh l id) →
      ∀ (k : Nat) (l : List AV) (id : Nat), as[k]? = some (Deed.fresh l id) → (isIn (listed.setIfInBounds i true) k = true → e'.H[id]? = some (.cells l)) ∧ (isIn (listed.setIfInBounds i true) k = false → e'.H[id]? = some .dead ∧ e'.μ id = none) := by
    intro e' hH hμ hnd k l id hk
    have hki : k ≠ i := fun h => by subst h; rw [hd] at hk; exact hnd l id (Option.some.inj hk)
    obtain ⟨g1, g2⟩ := hids k l id hk
    rw [isIn_set hil]
    have : decide (k = i) = false := by simpa using hki
    rw [this, Bool.or_false, hH, hμ id g1 (by rw [hp.len]; exact g2)]
    exact hp.news k l id hk
  unfold wpOpIn
  simp only [ho]
  cases d with
  | val v =>
    obtain ⟨hg, hev, hv⟩ := hdeed
    have hw := guard_wanted (e := e) hp.size hg (fun t ht => (hread t (.inr ht)).2)
    rw [if_pos hw]
    refine hev e a _ _ hp.ok (HSub.of_prefix hp.pre) hops (fun u e' hx hu => hK e' _ ?_)
    have hmono : ∀ av w, Rep e av w → Rep e' av w := fun av w h => Rep.mono (hx.le hp.ok) av h
    exact ⟨hputsz _ _, (hputdf _ _).mono (hx.le hp.ok), hp.ok.ext hx, hp.fr.ext hp.ok hx, hslots e' u v hmono hv hu, by rw [hx.H]; exact hp.len, by rw [hx.H]; exact hp.pre,
      hnews e' hx.H (fun id _ h => hx.μ id h) (fun l id h => by cases h)⟩
  | skip =>
    obtain ⟨hg, hv⟩ := hdeed
    have hw := guard_wanted (e := e) hp.size hg (fun t ht => (hread t (.inr ht)).2)
    rw [if_neg (by rw [hw]; simp)]
    refine ⟨fun _ _ => trivial, hK e _ ?_⟩
    exact ⟨hputsz _ _, hputdf _ _, hp.ok, hp.fr, hslots e undef (.raw (.tuple #[])) (fun _ _ h => h) hv (by rw [Rep]; rfl), hp.len, hp.pre, hnews e rfl (fun _ _ _ => rfl) (fun l id h => by cases h)⟩
  | fresh l id =>
    obtain ⟨hg, ⟨dd, bt, t, p, af, rfl, hz⟩, hv, hHid⟩ := hdeed
    have hw : Region.wanted (⟨dd, .alloc bt, t, p, af, none⟩ : Oper) (yielded ops a.tmps) = true := rfl
    rw [if_pos hw]
    obtain ⟨hdead, hμ⟩ := (hp.news i l id hd).2 hnl
    obtain ⟨zv, z1, z2, z3⟩ := zeroOf_run hz
    have hrl : RepL e l zv.cells.toList := by rw [z2]; exact RepL.raws _
    obtain ⟨ok', fr'⟩ := Env.place_ok (bt := bt) hp.ok hp.fr hdead hμ hrl z3
    have le := Env.place_le hp.ok (l := l) (ob := .cells zv.cells bt) hdead hμ
    have hidl := lt_of_get? hdead
    refine ⟨about_FW _ _ _ _ _, ?_⟩
    show Oper.uponIn (FW c.r) 0 c.P _ a K Q (((Oper.semAt c.r a.eval ⟨dd, .alloc bt, t, p, af, none⟩)).run c.P e.w)
    rw [semAt_of (by intro c h; cases h)]
    have hrun : (execOp a.eval ⟨dd, .alloc bt, t, p, af, none⟩).run c.P e.w = .ok (.value (.pointer (some ⟨e.w.heap.size, 0, none⟩))) (e.place id l (.cells zv.cells bt)).w := by
      simp [execOp, Instr.alloc, z1, run_newVar, Env.place]
    rw [hrun]
    refine hK _ _ ⟨hputsz _ _, (hputdf _ _).mono le, ok', fr', hslots _ _ (.ptr id 0) (fun av w h => Rep.mono le av h) hv ?_, by simp [Env.place, hp.len], ?_, fun k l' id' hk => ?_⟩
    · rw [Rep]
      refine ⟨by simpa [Env.place] using hidl, by rw [Env.place_T hdead]; unfold Env.T; rw [hdead]; rfl, e.w.heap.size, by simp [Env.place], rfl⟩
    · obtain ⟨X, hX⟩ := hp.pre
      have := (hids i l id hd).1
      refine ⟨X.set (id - s.H.length) (.cells l), ?_⟩
      simp only [Env.place]
      rw [← hX, List.set_append_right _ _ this]
    · rw [isIn_set hil]
      by_cases hki : k = i
      · subst hki
        rw [hd] at hk; simp only [Option.some.injEq, Deed.fresh.injEq] at hk
        obtain ⟨rfl, rfl⟩ := hk
        exact ⟨fun _ => by simp only [Env.place, List.getElem?_set_self hidl], fun h => by simp at h⟩
      · have hne : id' ≠ id := by
          rcases Nat.lt_or_gt_of_ne hki with h | h
          · have := hdist k i l' l id' id h hk hd; omega
          · have := hdist i k l l' id id' h hd hk; omega
        have : decide (k = i) = false := by simpa using hki
        rw [this, Bool.or_false]
        obtain ⟨g1, g2⟩ := hp.news k l' id' hk
        refine ⟨fun h => ?_, fun h => ?_⟩
        · simp only [Env.place, List.getElem?_set_ne (Ne.symm hne)]; exact g1 h
        · simp only [Env.place, List.getElem?_set_ne (Ne.symm hne), if_neg hne]; exact g2 h
theorem ps_done {listed : Array Bool} {e : Env} {a : Act} (hp : PS c ops m as s sf listed e a) (hlen : as.length = m) (hX : ∃ X, sf.H = s.H ++ X)
    (hcov : ∀ id, s.H.length ≤ id → id < sf.H.length → ∃ (k : Nat) (l : List AV), as[k]? = some (Deed.fresh l id))
    (hfacts : ∀ (k : Nat) (d : Deed), as[k]? = some d → ∃ s', DFact c s.H ops k d s' sf) (hall : ∀ j, j < m → isIn listed j = true) : e.H = sf.H := by
  obtain ⟨X, hX⟩ := hX
  obtain ⟨Y, hY⟩ := hp.pre
  apply List.ext_getElem?
  intro n
  rcases Nat.lt_or_ge n s.H.length with h | h
  · rw [← hY, hX, List.getElem?_append_left h, List.getElem?_append_left h]
  · rcases Nat.lt_or_ge n sf.H.length with h2 | h2
    · obtain ⟨k, l, hk⟩ := hcov n h h2
      have hkm : k < m := by have := lt_of_get? hk; omega
      rw [(hp.news k l n hk).1 (hall k hkm)]
      obtain ⟨s', hf⟩ := hfacts k _ hk
      obtain ⟨o, _, _, _, _, _, h4⟩ := hf.ex
      exact h4.symm
    · rw [List.getElem?_eq_none h2, List.getElem?_eq_none (by rw [hp.len]; exact h2)]
/-- **A region that draws its order.** -/
theorem aw_draw {id : Nat} {Q : AExit → St → Prop} {l : List Oper} (m : Nat) {s : St} (hm : c.P.follows .mixedOrders = true) (hok : drawOK l.toArray m = true) (h : DR c s.H l.toArray Q m 0 l s) :
    AWP c (.region id l.toArray true) Q s := by
  obtain ⟨as, sf, hlen, hval, hK⟩ := h (by simp)
  generalize l.toArray = ops at *
  have hlen : as.length = m := by omega
  have hc := checked_of hok
  obtain ⟨f1, f2, f3, f4, f5, f6, f7⟩ := dvalid_facts as 0 s sf hval (fun j j' _ h1 _ h2 hne t => hc.dsts j j' (by omega) (by omega) hne t)
  simp only [Nat.zero_add, hlen] at f3 f4
  have f3' : ∀ t, (∀ j, j < m → dstOf ops j ≠ some t) → sget sf.sl t = sget s.sl t := fun t ht => f3 t (fun j _ h => ht j h)
  intro e a hs
  refine wpIn_region_any hm ?_
  obtain ⟨e1, hw1, hp1⟩ := ps_start (m := m) (as := as) hs f2 f3' f5 ops.size
  rw [← hw1]
  have key : ∀ (fuel : Nat) (listed : Array Bool) (e : Env) (a : Act), left listed ops.size ≤ fuel → listed.size = ops.size → Closed ops (Region.before ops) listed → (∀ j, m ≤ j → isIn listed j = false) → PS c ops m as s sf listed e a →
      wpAnyIn (FW c.r) 0 c.P .any ops (lift c Q) fuel listed a e.w := by
    intro fuel
    induction fuel with
    | zero =>
      intro listed e a hf hsz hcl hno hp
      have hall := left_zero (listed := listed) ops.size (by omega)
      have hmn : m = ops.size := by
        rcases Nat.lt_or_ge m ops.size with h | h
        · have := hall m h; rw [hno m (Nat.le_refl _)] at this; cases this
        · have := hc.le; omega
      have hsim : Sim c sf e a := by
        refine ⟨hp.size, fun t => hp.slots t (fun j hj _ => hall j (by omega)), (f1 ▸ hp.defers), ?_, hp.ok, hp.fr⟩
        exact ps_done hp hlen f2 f7 (fun k d hk => (f4 k d hk).imp fun s' h => h.1) (fun j hj => hall j (by omega))
      have hwp := hK rfl e a hsim
      rw [List.length_drop, Array.length_toList] at hwp
      exact tail_forced hc (ops.size - m) m 0 listed a e.w (by omega) (Nat.le_refl _) hsz hcl (fun j hj => ⟨fun _ => by omega, fun _ => hall j hj⟩) hf hwp
    | succ fuel ih =>
      intro listed e a hf hsz hcl hno hp
      by_cases hall : ∀ j, j < m → isIn listed j = true
      · have hsim : Sim c sf e a := by
          refine ⟨hp.size, fun t => hp.slots t (fun j hj _ => hall j hj), (f1 ▸ hp.defers), ?_, hp.ok, hp.fr⟩
          exact ps_done hp hlen f2 f7 (fun k d hk => (f4 k d hk).imp fun s' h => h.1) hall
        have hwp := hK rfl e a hsim
        rw [List.length_drop, Array.length_toList] at hwp
        refine tail_forced hc (ops.size - m) m (fuel + 1) listed a e.w (by have := hc.le; omega) (Nat.le_refl _) hsz hcl (fun j hj => ⟨fun h => ?_, fun h => hall j h⟩) hf hwp
        rcases Nat.lt_or_ge j m with h2 | h2
        · exact h2
        · rw [hno j h2] at h; cases h
      · -- something of the first part is not listed
        have hex : ∃ j, j < m ∧ isIn listed j = false := by
          refine Classical.byContradiction fun hn => hall fun j hj => ?_
          cases hb : isIn listed j with
          | true => rfl
          | false => exact absurd ⟨j, hj, hb⟩ hn
        have hready : ∀ i, i ∈ Region.ready .any ops listed → i < m := by
          intro i hi
          rcases Nat.lt_or_ge i m with h | h
          · exact h
          · obtain ⟨j, hj, hjf⟩ := hex
            have hin := ((mem_ready' hsz).1 hi).1
            have := ready_before hc hsz hcl hi (Nat.lt_of_lt_of_le hj hc.le) (hc.tail i j hin h (by omega))
            rw [hjf] at this; cases this
        refine ⟨fun hnone => ?_, fun i hi => ?_⟩
        · exfalso
          obtain ⟨j, hj, hjf⟩ := hex
          have hleast : ∀ n, n < ops.size → isIn listed n = false → ∃ k, k ∈ Region.ready .any ops listed := by
            intro n
            induction n using Nat.strongRecOn with
            | _ n ihn =>
              intro hn hnf
              by_cases hpre : ∃ k, k < n ∧ isIn listed k = false
              · obtain ⟨k, hk, hkf⟩ := hpre
                exact ihn k hk (by omega) hkf
              · refine ⟨n, (mem_ready' hsz).2 ⟨hn, hnf, fun o ho ed he hb => ?_⟩⟩
                have := hc.edges n o ho ed he hb
                cases hbb : isIn listed ed.on with
                | true => rfl
                | false => exact absurd ⟨ed.on, this, hbb⟩ hpre
          obtain ⟨k, hk⟩ := hleast j (Nat.lt_of_lt_of_le hj hc.le) hjf
          rw [hnone] at hk; cases hk
        · have him := hready i hi
          obtain ⟨hin, hif, _⟩ := (mem_ready' hsz).1 hi
          refine ps_step hc hlen f4 f5 f6 hsz hcl hi him hp (fun e' a' hp' => ?_)
          refine ih _ e' a' ?_ (by simpa using hsz) (closed_set hc hsz hcl hi) (fun j hj => ?_) hp'
          · have := left_set (by omega) hif ops.size hin; omega
          · rw [isIn_set (by omega), hno j hj]; simp; omega
  refine key ops.size (Array.replicate ops.size false) e1 a ?_ (by simp) (fun j k _ _ h => ?_) (fun j _ => ?_) hp1
  · rw [left_init ops.size ops.size (Nat.le_refl _)]; exact Nat.le_refl _
  · unfold isIn at h; rw [Array.getD_eq_getD_getElem?, Array.getElem?_replicate] at h; split at h <;> cases h
  · unfold isIn; rw [Array.getD_eq_getD_getElem?, Array.getElem?_replicate]; split <;> rfl
end walk
end Go.Ab
namespace Go.Ab
variable [Tabs]
theorem Oper.wpIn_monoQ {F : Fence} {n : Nat} {P : Program} {o : Oper} {a : Act} {w : World} {K : Act → World → Prop} {Q Q' : Exit → Act → World → Prop} (h : ∀ x a w, x ≠ .normal → Q x a w → Q' x a w)
    (hh : o.wpIn F n P a w K Q) : o.wpIn F n P a w K Q' := by
  unfold Oper.wpIn at *
  refine ⟨hh.1, ?_⟩
  have hh := hh.2
  have hl : LetsOut Q → LetsOut Q' := fun ⟨a, w, q⟩ => ⟨a, w, h _ _ _ (by intro e; cases e) q⟩
  generalize (o.semAt F.round a.eval).run P w = r at *
  cases r with
  | ok x w' =>
    cases x <;> simp only [Oper.uponIn] at hh ⊢ <;>
      first
        | exact hh
        | exact ⟨hh.1, CallsIn.mono hh.2 (fun e w'' he => by cases e <;> first | exact he | exact h _ _ _ (by intro e; cases e) he | exact hl he)⟩
        | exact ⟨hh.1, RoundIn.mono hh.2 (fun e w'' he => by cases e <;> first | exact he | exact h _ _ _ (by intro e; cases e) he | exact hl he)⟩
  | halt x w' => cases x <;> simp only [Oper.uponIn] at hh ⊢ <;> first | exact hh | exact h _ _ _ (by intro e; cases e) hh
/-- **An operation that changes objects**: wherever its operands stand so, from the objects H to H'. -/
def Eff (c : Ctx) (Q : AExit → St → Prop) (o : Oper) (H : List AObj) (df : List ADef) (ρ : Operand → AV) (v : AV) (H' : List AObj) : Prop :=
  ∀ s : St, s.H = H → s.df = df → (∀ x ∈ o.op.operands.toList, s.op x = ρ x) → ∀ e a, Sim c s e a → ∀ K : Act → World → Prop,
    (∀ e' a', Sim c (St.put { s with H := H' } o.dst v) e' a' → K a' e'.w) → o.wpIn (FW c.r) 0 c.P a e.w K (lift c Q)
theorem eff_of {c : Ctx} {Q : AExit → St → Prop} {o : Oper} {H H' : List AObj} {df : List ADef} {ρ : Operand → AV} {v : AV} (hg : o.guard = none)
    (h : ∀ s : St, s.H = H → (∀ x ∈ o.op.operands.toList, s.op x = ρ x) → ∀ Q, SeqWP c #[o] Q 1 [] (St.put { s with H := H' } o.dst v) → SeqWP c #[o] Q 0 [o] s) : Eff c Q o H df ρ v H' := by
  intro s hH _ hop e a hs K hK
  have h1 := h s hH hop (fun ax s2 => (ax = .normal → s2 = St.put { s with H := H' } o.dst v) ∧ (ax ≠ .normal → Q ax s2)) (sq_nil ⟨fun _ => rfl, fun e => absurd rfl e⟩) (by simp) e a hs
  have h2 : o.wpIn (FW c.r) 0 c.P a e.w (fun a w => lift c (fun ax s2 => (ax = .normal → s2 = St.put { s with H := H' } o.dst v) ∧ (ax ≠ .normal → Q ax s2)) .normal a w)
      (lift c (fun ax s2 => (ax = .normal → s2 = St.put { s with H := H' } o.dst v) ∧ (ax ≠ .normal → Q ax s2))) := by
    simpa [wpOpsIn, Region.wanted, hg] using h1
  refine Oper.wpIn_monoQ ?_ (Oper.wpIn_mono ?_ h2)
  · rintro x a' w hx ⟨ax, s2, e', hq, hw, hsim, hr⟩
    have hax : ax ≠ .normal := fun hh => by subst hh; exact hx hr
    exact ⟨ax, s2, e', hq.2 hax, hw, hsim, hr⟩
  · rintro a' w ⟨ax, s2, e', hq, hw, hsim, hr⟩
    have hax : ax = .normal := by
      cases ax with
      | normal => rfl
      | exit id => cases (show Exit.normal = .exit id from hr)
      | goto l => cases (show Exit.normal = .goto l from hr)
      | ret => cases (show Exit.normal = .ret from hr)
      | panic v => obtain ⟨u, hu, _⟩ := hr; cases hu
    have := hq.1 hax
    subst this; subst hw
    exact hK e' a' hsim
def bot : AV := .sl 1 [[]]
/-- **An operation that gives up**, wherever its operands stand so. -/
def PanOK (c : Ctx) (Q : AExit → St → Prop) (o : Oper) (df : List ADef) (ρ : Operand → AV) : Prop :=
  ∀ s : St, s.df = df → (∀ x ∈ o.op.operands.toList, s.op x = ρ x) → ∀ e a, Sim c s e a → ∀ K : Act → World → Prop, o.wpIn (FW c.r) 0 c.P a e.w K (lift c Q)
/-- **An operation that lays one object**, in a place that was kept for it. -/
def FreshOK (c : Ctx) (Q : AExit → St → Prop) (Hc : List AObj) (o : Oper) (ρ : Operand → AV) (id : Nat) (ob : AObj) (v : AV) : Prop :=
  ∀ (s : St) e a, Sim c s e a → HSub Hc s.H → (∀ x ∈ o.op.operands.toList, Rep e (ρ x) (a.eval x)) → s.H[id]? = some .dead → e.μ id = none → ∀ K : Act → World → Prop,
    (∀ e' a', Sim c (St.put { s with H := s.H.set id ob } o.dst v) e' a' → (∀ j, j < s.H.length → j ≠ id → e'.μ j = e.μ j) → K a' e'.w) → o.wpIn (FW c.r) 0 c.P a e.w K (lift c Q)
theorem fresh_alloc {c : Ctx} {Q : AExit → St → Prop} {Hc : List AObj} {d : Option Tmp} {t : TypeId} {p : String} {af : Array Edge} {bt : TypeId} {l : List AV} {ρ : Operand → AV} {id : Nat} (hd : dOK c.nt d = true) (hz : zeroOf c.P bt = some l) :
    FreshOK c Q Hc ⟨d, .alloc bt, t, p, af, none⟩ ρ id (.cells l) (.ptr id 0) := by
  intro s e a hs _ _ hdead hμ K hK
  have hdead : e.H[id]? = some .dead := by rw [hs.H]; exact hdead
  obtain ⟨zv, z1, z2, z3⟩ := zeroOf_run hz
  have hrl : RepL e l zv.cells.toList := by rw [z2]; exact RepL.raws _
  obtain ⟨ok', fr'⟩ := Env.place_ok (bt := bt) hs.ok hs.fr hdead hμ hrl z3
  have le := Env.place_le hs.ok (l := l) (ob := .cells zv.cells bt) hdead hμ
  have hidl := lt_of_get? hdead
  refine ⟨about_FW _ _ _ _ _, ?_⟩
  show Oper.uponIn (FW c.r) 0 c.P _ a K (lift c Q) (((Oper.semAt c.r a.eval ⟨d, .alloc bt, t, p, af, none⟩)).run c.P e.w)
  rw [semAt_of (by intro c h; cases h)]
  have hrun : (execOp a.eval ⟨d, .alloc bt, t, p, af, none⟩).run c.P e.w = .ok (.value (.pointer (some ⟨e.w.heap.size, 0, none⟩))) (e.place id l (.cells zv.cells bt)).w := by
    simp [execOp, Instr.alloc, z1, run_newVar, Env.place]
  rw [hrun]
  have hsim0 : Sim c { s with H := s.H.set id (.cells l) } (e.place id l (.cells zv.cells bt)) a :=
    ⟨hs.size, fun t => Rep.mono le _ (hs.slots t), hs.defers.mono le, by simp [Env.place, hs.H], ok', fr'⟩
  have hv : Rep (e.place id l (.cells zv.cells bt)) (.ptr id 0) (.pointer (some ⟨e.w.heap.size, 0, none⟩)) := by
    rw [Rep]
    exact ⟨by simpa [Env.place] using hidl, by rw [Env.place_T hdead]; unfold Env.T; rw [hdead]; rfl, e.w.heap.size, by simp [Env.place], rfl⟩
  exact hK _ _ (hsim0.put hd hv) fun j _ hne => by simp [Env.place, hne]
inductive Act4 where
  | pan
  | val (v : AV)
  | skip
  | fresh (l : AObj × AV) (id : Nat)
  | eff (v : AV) (H' : List AObj)
def upd (d : Option Tmp) (s : St) : Act4 → St
  | .pan => s.put d bot
  | .val v => s.put d v
  | .skip => s.put d (.raw (.tuple #[]))
  | .fresh l _ => St.put { s with H := s.H ++ [l.1] } d l.2
  | .eff v H' => St.put { s with H := H' } d v
def Act4.out : Act4 → AV
  | .pan => bot
  | .val v => v
  | .skip => .raw (.tuple #[])
  | .fresh l _ => l.2
  | .eff v _ => v
def Act4.heap (H : List AObj) : Act4 → List AObj
  | .fresh l _ => H ++ [l.1]
  | .eff _ H' => H'
  | _ => H
theorem upd_H (d : Option Tmp) (s : St) (x : Act4) : (upd d s x).H = x.heap s.H := by cases x <;> cases d <;> rfl
theorem upd_df (d : Option Tmp) (s : St) (x : Act4) : (upd d s x).df = s.df := by cases x <;> cases d <;> rfl
theorem upd_ne {d : Option Tmp} {s : St} {x : Act4} {t : Tmp} (h : d ≠ some t) : sget (upd d s x).sl t = sget s.sl t := by
  cases x <;> simp only [upd] <;> rw [sget_put_ne h]
theorem upd_eq {s : St} {x : Act4} {t : Tmp} : sget (upd (some t) s x).sl t = x.out := by cases x <;> simp only [upd, Act4.out] <;> exact sget_put_eq
def early (ops : Array Oper) (fs es : List Nat) (i : Nat) : Bool := fs.isEmpty && es.all fun e => Nat.blt i e && ((Region.before ops).getD e 0).testBit i
def deedOK (c : Ctx) (Q : AExit → St → Prop) (Hc : List AObj) (ops : Array Oper) (fs es : List Nat) (i : Nat) (o : Oper) (s : St) : Act4 → Prop
  | .pan => o.guard = none ∧ PanOK c Q o s.df s.op
  | .val v => guardIs ops c.nt s o true ∧ (Ev c.P c.r o Hc s.op v ∨ (early ops fs es i = true ∧ Ev c.P c.r o s.H s.op v))
  | .skip => guardIs ops c.nt s o false
  | .fresh l id => o.guard = none ∧ fs.contains i = true ∧ id = s.H.length ∧ FreshOK c Q Hc o s.op id l.1 l.2
  | .eff v H' => o.guard = none ∧ es.contains i = true ∧ Eff c Q o s.H s.df s.op v H' ∧ HSub Hc H'
def DV (c : Ctx) (Q : AExit → St → Prop) (Hc : List AObj) (ops : Array Oper) (fs es : List Nat) : Nat → St → List Act4 → St → Prop
  | _, s, [], sf => sf = s
  | i, s, x :: as, sf => (∃ o, ops[i]? = some o ∧ dOK c.nt o.dst = true ∧ deedOK c Q Hc ops fs es i o s x) ∧ DV c Q Hc ops fs es (i + 1) (upd (dstOf ops i) s x) as sf
def DC (c : Ctx) (Hc : List AObj) (ops : Array Oper) (fs es : List Nat) (Q : AExit → St → Prop) (i : Nat) (l : List Oper) (s : St) : Prop :=
  i ≤ ops.size → ops.toList.drop i = l → ∃ as sf, i + as.length = ops.size ∧ DV c Q Hc ops fs es i s as sf ∧ Q .normal sf
section rules
variable {c : Ctx} {Hc : List AObj} {ops : Array Oper} {fs es : List Nat} {Q : AExit → St → Prop} {i : Nat} {s : St} {rest : List Oper}
variable {d : Option Tmp} {op : Op} {t : TypeId} {p : String} {af : Array Edge}
theorem dc_nil (h : Q .normal s) : DC c Hc ops fs es Q i [] s := by
  intro hle hd
  have hge : ops.size ≤ i := by simpa [List.drop_eq_nil_iff] using hd
  exact ⟨[], s, by simp; omega, rfl, h⟩
theorem dc_step {o : Oper} (x : Act4) (hd : dOK c.nt o.dst = true) (hx : deedOK c Q Hc ops fs es i o s x) (k : DC c Hc ops fs es Q (i + 1) rest (upd o.dst s x)) : DC c Hc ops fs es Q i (o :: rest) s := by
  intro _ hdr
  obtain ⟨ho, hr⟩ := drop_cons hdr
  have ho : ops[i]? = some o := by simpa using ho
  have hlt := (Array.getElem?_eq_some_iff.1 ho).1
  obtain ⟨as, sf, h1, h2, h3⟩ := k hlt hr
  have hdo : dstOf ops i = o.dst := by unfold dstOf; rw [ho]; rfl
  exact ⟨x :: as, sf, by simp; omega, ⟨⟨o, ho, hd, hx⟩, by rw [hdo]; exact h2⟩, h3⟩
theorem dc_ev {v : AV} (hd : dOK c.nt d = true) (hv : Ev c.P c.r ⟨d, op, t, p, af, none⟩ Hc s.op v) (k : DC c Hc ops fs es Q (i + 1) rest (s.put d v)) : DC c Hc ops fs es Q i (⟨d, op, t, p, af, none⟩ :: rest) s :=
  dc_step (.val v) hd ⟨rfl, .inl hv⟩ k
theorem dc_alloc {bt : TypeId} {l : List AV} (hd : dOK c.nt d = true) (hf : fs.contains i = true) (hz : zeroOf c.P bt = some l)
    (k : DC c Hc ops fs es Q (i + 1) rest (St.put { s with H := s.H ++ [.cells l] } d (.ptr s.H.length 0))) : DC c Hc ops fs es Q i (⟨d, .alloc bt, t, p, af, none⟩ :: rest) s :=
  dc_step (.fresh (.cells l, .ptr s.H.length 0) s.H.length) hd ⟨rfl, hf, rfl, fresh_alloc hd hz⟩ k
theorem dc_fresh {ob : AObj} {v : AV} (hd : dOK c.nt d = true) (hf : fs.contains i = true) (hv : FreshOK c Q Hc ⟨d, op, t, p, af, none⟩ s.op s.H.length ob v)
    (k : DC c Hc ops fs es Q (i + 1) rest (St.put { s with H := s.H ++ [ob] } d v)) : DC c Hc ops fs es Q i (⟨d, op, t, p, af, none⟩ :: rest) s :=
  dc_step (.fresh (ob, v) s.H.length) hd ⟨rfl, hf, rfl, hv⟩ k
theorem dc_eff {v : AV} {H' : List AObj} (hd : dOK c.nt d = true) (he : es.contains i = true) (hv : Eff c Q ⟨d, op, t, p, af, none⟩ s.H s.df s.op v H') (hs : HSub Hc H')
    (k : DC c Hc ops fs es Q (i + 1) rest (St.put { s with H := H' } d v)) : DC c Hc ops fs es Q i (⟨d, op, t, p, af, none⟩ :: rest) s :=
  dc_step (.eff v H') hd ⟨rfl, he, hv, hs⟩ k
end rules
def tmpsOKc (ops : Array Oper) (b : Array Nat) : Bool := (List.range ops.size).all fun i => match ops[i]? with
  | some o => (opTmps o ++ guardTmp ops o).all fun t => (List.range ops.size).all fun j => match (ops[j]?).bind (·.dst) with
      | some d => !Nat.beq d t || Nat.beq j i || (Nat.blt j i && (b.getD i 0).testBit j) || (Nat.blt i j && (b.getD j 0).testBit i)
      | none => true
  | none => false
def esOK (ops : Array Oper) (b : Array Nat) (fs es : List Nat) : Bool := es.all fun i => Nat.blt i ops.size && fs.all (fun j => Nat.blt j i && (b.getD i 0).testBit j) && es.all (fun j => !Nat.blt j i || (b.getD i 0).testBit j)
def drawOKc (ops : Array Oper) (fs es : List Nat) : Bool := let b := Region.before ops; bOK ops b && edgesOK ops && tmpsOKc ops b && dstsOK ops ops.size && esOK ops b fs es
structure ChkC (ops : Array Oper) (b : Array Nat) (fs es : List Nat) : Prop where
  bok : ∀ i k, i < ops.size → k < ops.size → (b.getD i 0).testBit k = true → ∃ o, ops[i]? = some o ∧ ∃ e ∈ o.after.toList, Region.binds .any e = true ∧ (e.on = k ∨ (b.getD e.on 0).testBit k = true)
  edges : ∀ i o, ops[i]? = some o → ∀ e ∈ o.after.toList, Region.binds .any e = true → e.on < i
  tmps : ∀ i o, ops[i]? = some o → ∀ t, t ∈ opTmps o ∨ t ∈ guardTmp ops o → ∀ j, j < ops.size → dstOf ops j = some t → j = i ∨ (j < i ∧ (b.getD i 0).testBit j = true) ∨ (i < j ∧ (b.getD j 0).testBit i = true)
  dsts : ∀ i j, i < ops.size → j < ops.size → i ≠ j → ∀ t, dstOf ops i = some t → dstOf ops j ≠ some t
  ef : ∀ i j, es.contains i = true → fs.contains j = true → j < i ∧ (b.getD i 0).testBit j = true
  ee : ∀ i j, es.contains i = true → es.contains j = true → j < i → (b.getD i 0).testBit j = true
theorem chkC_of {ops : Array Oper} {fs es : List Nat} (h : drawOKc ops fs es = true) : ChkC ops (Region.before ops) fs es := by
  unfold drawOKc at h
  simp only [Bool.and_eq_true] at h
  obtain ⟨⟨⟨⟨h2, h3⟩, h5⟩, h6⟩, h7⟩ := h
  have hE : ∀ i, es.contains i = true → i < ops.size ∧ (∀ j, fs.contains j = true → j < i ∧ ((Region.before ops).getD i 0).testBit j = true) ∧ (∀ j, es.contains j = true → j < i → ((Region.before ops).getD i 0).testBit j = true) := by
    intro i hi
    have := List.all_eq_true.1 h7 i (by simpa using hi)
    simp only [Bool.and_eq_true, Nat.blt_eq] at this
    obtain ⟨⟨g1, g2⟩, g3⟩ := this
    refine ⟨g1, fun j hj => ?_, fun j hj hji => ?_⟩
    · have := List.all_eq_true.1 g2 j (by simpa using hj)
      simpa [Nat.blt_eq] using this
    · have := List.all_eq_true.1 g3 j (by simpa using hj)
      have hb : Nat.blt j i = true := by simpa [Nat.blt_eq] using hji
      simpa [hb] using this
  refine ⟨fun i k hi hk hb => ?_, fun i o ho e he hb => ?_, fun i o ho t ht j hj hd => ?_, fun i j hi hj hne t hd hd' => ?_, fun i j hi hj => (hE i hi).2.1 j hj, fun i j hi hj => (hE i hi).2.2 j hj⟩
  · have := List.all_eq_true.1 (List.all_eq_true.1 h2 i (List.mem_range.2 hi)) k (List.mem_range.2 hk)
    rw [hb] at this
    simp only [Bool.not_true, Bool.false_or] at this
    split at this
    · rename_i o ho
      obtain ⟨e, he, hx⟩ := List.any_eq_true.1 this
      simp only [Bool.and_eq_true, Bool.or_eq_true] at hx
      exact ⟨o, ho, e, he, hx.1, hx.2.imp Nat.eq_of_beq_eq_true id⟩
    · cases this
  · have hi : i < ops.size := (Array.getElem?_eq_some_iff.1 ho).1
    have := List.all_eq_true.1 h3 i (List.mem_range.2 hi)
    rw [ho] at this
    have := List.all_eq_true.1 this e he
    rw [hb] at this
    simpa [Nat.blt_eq] using this
  · have hi : i < ops.size := (Array.getElem?_eq_some_iff.1 ho).1
    have h7 := List.all_eq_true.1 h5 i (List.mem_range.2 hi)
    rw [ho] at h7
    have h8 := List.all_eq_true.1 (List.all_eq_true.1 h7 t (List.mem_append.2 ht)) j (List.mem_range.2 hj)
    unfold dstOf at hd
    rw [hd] at h8
    simp only [Nat.beq_refl, Bool.not_true, Bool.false_or, Bool.and_eq_true, Bool.or_eq_true, Nat.blt_eq] at h8
    rcases h8 with (h8 | h8) | h8
    · exact .inl (Nat.eq_of_beq_eq_true h8)
    · exact .inr (.inl h8)
    · exact .inr (.inr h8)
  · have h7 := List.all_eq_true.1 (List.all_eq_true.1 h6 i (List.mem_range.2 hi)) j (List.mem_range.2 hj)
    have hn : Nat.beq i j = false := by
      cases hb : Nat.beq i j with
      | false => rfl
      | true => exact absurd (Nat.eq_of_beq_eq_true hb) hne
    unfold dstOf at hd hd'
    rw [hn, hd, hd'] at h7
    simp at h7
def stk (ops : Array Oper) : Nat → List Act4 → St → Nat → St
  | _, _, s, 0 => s
  | _, [], s, _ + 1 => s
  | i, x :: as, s, k + 1 => stk ops (i + 1) as (upd (dstOf ops i) s x) k
section text
variable {c : Ctx} {Q : AExit → St → Prop} {Hc : List AObj} {ops : Array Oper} {fs es : List Nat}
theorem dv_fin : ∀ (as : List Act4) (i : Nat) (s sf : St), DV c Q Hc ops fs es i s as sf → sf = stk ops i as s as.length
  | [], _, _, _, h => h
  | _ :: as, i, s, sf, h => dv_fin as (i + 1) _ sf h.2
theorem dv_at : ∀ (as : List Act4) (i : Nat) (s sf : St), DV c Q Hc ops fs es i s as sf → ∀ k x, as[k]? = some x → ∃ o, ops[i + k]? = some o ∧ dOK c.nt o.dst = true ∧ deedOK c Q Hc ops fs es (i + k) o (stk ops i as s k) x
  | [], _, _, _, _, _, _, hk => by simp at hk
  | y :: as, i, s, sf, h, 0, x, hk => by
    simp only [List.getElem?_cons_zero, Option.some.injEq] at hk
    subst hk; exact h.1
  | y :: as, i, s, sf, h, k + 1, x, hk => by
    have := dv_at as (i + 1) _ sf h.2 k x (by simpa using hk)
    rw [show i + (k + 1) = i + 1 + k by omega]; exact this
theorem stk_succ : ∀ (as : List Act4) (i : Nat) (s : St) (k : Nat) (x : Act4), as[k]? = some x → stk ops i as s (k + 1) = upd (dstOf ops (i + k)) (stk ops i as s k) x
  | [], _, _, _, _, hk => by simp at hk
  | y :: as, i, s, 0, x, hk => by
    simp only [List.getElem?_cons_zero, Option.some.injEq] at hk
    subst hk; cases as <;> rfl
  | y :: as, i, s, k + 1, x, hk => by
    have := stk_succ as (i + 1) (upd (dstOf ops i) s y) k x (by simpa using hk)
    rw [show i + (k + 1) = i + 1 + k by omega]; exact this
theorem stk_none {as : List Act4} {i : Nat} {s : St} : ∀ {k : Nat}, as.length ≤ k → stk ops i as s (k + 1) = stk ops i as s k := by
  induction as generalizing i s with
  | nil => intro k _; cases k <;> rfl
  | cons y as ih =>
    intro k hk
    cases k with
    | zero => simp at hk
    | succ k => exact ih (i := i + 1) (s := upd (dstOf ops i) s y) (by simpa using hk)
end text
end Go.Ab
namespace Go.Ab
variable [Tabs]
theorem least_of {p : Nat → Prop} (h : ∃ n, p n) : ∃ n, p n ∧ ∀ m, m < n → ¬ p m := by
  obtain ⟨n, hn⟩ := h
  induction n using Nat.strongRecOn with
  | _ n ih =>
    by_cases hx : ∃ m, m < n ∧ p m
    · obtain ⟨m, hm, hp⟩ := hx; exact ih m hm hp
    · exact ⟨n, hn, fun m hm hp => hx ⟨m, hm, hp⟩⟩
theorem readyC {ops : Array Oper} {b : Array Nat} {fs es : List Nat} (hc : ChkC ops b fs es) {listed : Array Bool} (hsz : listed.size = ops.size) (hcl : Closed ops b listed) {i : Nat} (hi : i ∈ Region.ready .any ops listed) {k : Nat} (hk : k < ops.size)
    (hb : (b.getD i 0).testBit k = true) : isIn listed k = true := by
  obtain ⟨h1, h2, h3⟩ := (mem_ready' hsz).1 hi
  obtain ⟨o, ho, e, he, hbd, hor⟩ := hc.bok i k h1 hk hb
  have hl := h3 o ho e he hbd
  rcases hor with h | h
  · rw [← h]; exact hl
  · have he2 := hc.edges i o ho e he hbd
    exact hcl e.on k (by omega) hk hl h
theorem closedC {ops : Array Oper} {b : Array Nat} {fs es : List Nat} (hc : ChkC ops b fs es) {listed : Array Bool} (hsz : listed.size = ops.size) (hcl : Closed ops b listed) {i : Nat} (hi : i ∈ Region.ready .any ops listed) :
    Closed ops b (listed.setIfInBounds i true) := by
  have h1 := ((mem_ready' hsz).1 hi).1
  intro j k hj hk hin hb
  rw [isIn_set (by omega)] at hin ⊢
  simp only [Bool.or_eq_true, decide_eq_true_eq] at hin ⊢
  rcases hin with h | h
  · exact .inl (hcl j k hj hk h hb)
  · subst h; exact .inl (readyC hc hsz hcl hi hk hb)
def slL (sf s : St) (ops : Array Oper) (listed : Array Bool) : List (Nat × AV) :=
  ((List.range ops.size).filterMap fun j => if isIn listed j = true then (dstOf ops j).map fun t => (t, sget sf.sl t) else none) ++ s.sl
theorem sget_app_in {t : Nat} {v : AV} {M : List (Nat × AV)} : ∀ {L : List (Nat × AV)}, (∀ x ∈ L, x.1 = t → x.2 = v) → (∃ x ∈ L, x.1 = t) → sget (L ++ M) t = v
  | [], _, h => by obtain ⟨x, hx, _⟩ := h; cases hx
  | (u, a) :: L, h1, h2 => by
    simp only [List.cons_append, sget]
    cases hb : u == t with
    | true => exact h1 (u, a) (by simp) (by simpa using hb)
    | false =>
      refine sget_app_in (fun x hx => h1 x (List.mem_cons_of_mem _ hx)) ?_
      obtain ⟨x, hx, e⟩ := h2
      rcases List.mem_cons.1 hx with h | h
      · subst h; simp at hb; exact absurd e hb
      · exact ⟨x, h, e⟩
theorem sget_app_out {t : Nat} {M : List (Nat × AV)} : ∀ {L : List (Nat × AV)}, (∀ x ∈ L, x.1 ≠ t) → sget (L ++ M) t = sget M t
  | [], _ => rfl
  | (u, a) :: L, h => by
    simp only [List.cons_append, sget]
    cases hb : u == t with
    | true => exact absurd (by simpa using hb) (h (u, a) (by simp))
    | false => exact sget_app_out fun x hx => h x (List.mem_cons_of_mem _ hx)
theorem slL_in {sf s : St} {ops : Array Oper} {listed : Array Bool} {j t : Nat} (hj : j < ops.size) (hl : isIn listed j = true) (hd : dstOf ops j = some t) : sget (slL sf s ops listed) t = sget sf.sl t := by
  unfold slL
  refine sget_app_in (fun x hx e => ?_) ⟨(t, sget sf.sl t), List.mem_filterMap.2 ⟨j, List.mem_range.2 hj, by simp [hl, hd]⟩, rfl⟩
  obtain ⟨k, _, hk⟩ := List.mem_filterMap.1 hx
  split at hk
  · cases hdk : dstOf ops k with
    | none => rw [hdk] at hk; cases hk
    | some u => rw [hdk] at hk; simp only [Option.map_some, Option.some.injEq] at hk; subst hk; simp only at e; subst e; rfl
  · cases hk
theorem slL_out {sf s : St} {ops : Array Oper} {listed : Array Bool} {t : Nat} (h : ∀ j, j < ops.size → isIn listed j = true → dstOf ops j ≠ some t) : sget (slL sf s ops listed) t = sget s.sl t := by
  unfold slL
  refine sget_app_out fun x hx e => ?_
  obtain ⟨k, hk1, hk⟩ := List.mem_filterMap.1 hx
  split at hk
  · rename_i hl
    cases hdk : dstOf ops k with
    | none => rw [hdk] at hk; cases hk
    | some u => rw [hdk] at hk; simp only [Option.map_some, Option.some.injEq] at hk; subst hk; exact h k (List.mem_range.1 hk1) hl (by rw [hdk, ← e])
  · cases hk
theorem Sim.congr {c : Ctx} {s s' : St} {e : Env} {a : Act} (h : Sim c s e a) (h1 : ∀ t, sget s'.sl t = sget s.sl t) (h2 : s'.H = s.H) (h3 : s'.df = s.df) : Sim c s' e a :=
  ⟨h.size, fun t => by rw [h1]; exact h.slots t, (h3.symm ▸ h.defers), h.H.trans h2.symm, h.ok, h.fr⟩
section main
variable {c : Ctx} {Q : AExit → St → Prop} {Hc : List AObj} {ops : Array Oper} {fs es : List Nat} {b : Array Nat} {as : List Act4} {s sf : St}
structure Tx (c : Ctx) (Q : AExit → St → Prop) (Hc : List AObj) (ops : Array Oper) (fs es : List Nat) (s sf : St) (as : List Act4) : Prop where
  len : as.length = ops.size
  fin : sf = stk ops 0 as s ops.size
  at_ : ∀ k x, as[k]? = some x → ∃ o, ops[k]? = some o ∧ dOK c.nt o.dst = true ∧ deedOK c Q Hc ops fs es k o (stk ops 0 as s k) x
def stA (ops : Array Oper) (as : List Act4) (s : St) (k : Nat) : St := stk ops 0 as s k
theorem stA_succ {k : Nat} {x : Act4} (h : as[k]? = some x) : stA ops as s (k + 1) = upd (dstOf ops k) (stA ops as s k) x := by
  have := stk_succ (ops := ops) as 0 s k x h
  rwa [Nat.zero_add] at this
theorem stA_between {t : Nat} {k : Nat} : ∀ d, (∀ j, k ≤ j → j < k + d → dstOf ops j ≠ some t) → sget (stA ops as s (k + d)).sl t = sget (stA ops as s k).sl t
  | 0, _ => rfl
  | d + 1, h => by
    rw [← stA_between d (fun j h1 h2 => h j h1 (by omega))]
    rcases Nat.lt_or_ge (k + d) as.length with hl | hl
    · have hx : as[k + d]? = some as[k + d] := by simp [hl]
      rw [show k + (d + 1) = k + d + 1 by omega, stA_succ hx]
      exact upd_ne (h (k + d) (by omega) (by omega))
    · rw [show k + (d + 1) = k + d + 1 by omega]
      unfold stA; rw [stk_none hl]
theorem stA_heap {k : Nat} {x : Act4} (h : as[k]? = some x) : (stA ops as s (k + 1)).H = x.heap (stA ops as s k).H := by rw [stA_succ h, upd_H]
theorem stA_df (ops : Array Oper) (as : List Act4) (s : St) : ∀ k, (stA ops as s k).df = s.df
  | 0 => by unfold stA; cases as <;> rfl
  | k + 1 => by
    rcases Nat.lt_or_ge k as.length with hl | hl
    · have hx : as[k]? = some as[k] := by simp [hl]
      rw [stA_succ hx, upd_df]; exact stA_df ops as s k
    · unfold stA; rw [stk_none hl]; exact stA_df ops as s k
theorem stA_zero : stA ops as s 0 = s := by unfold stA; cases as <;> rfl
def special : Act4 → Prop
  | .fresh _ _ => True
  | .eff _ _ => True
  | _ => False
theorem stA_same {k : Nat} : ∀ d, (∀ j x, k ≤ j → j < k + d → as[j]? = some x → ¬ special x) → (stA ops as s (k + d)).H = (stA ops as s k).H
  | 0, _ => rfl
  | d + 1, h => by
    rw [← stA_same d (fun j x h1 h2 => h j x h1 (by omega))]
    rcases Nat.lt_or_ge (k + d) as.length with hl | hl
    · have hx : as[k + d]? = some as[k + d] := by simp [hl]
      rw [show k + (d + 1) = k + d + 1 by omega, stA_heap hx]
      have := h (k + d) _ (by omega) (by omega) hx
      cases hy : as[k + d] with
      | pan => rfl
      | val v => rfl
      | skip => rfl
      | fresh l id => rw [hy] at this; exact absurd trivial this
      | eff v H' => rw [hy] at this; exact absurd trivial this
    · rw [show k + (d + 1) = k + d + 1 by omega]
      unfold stA; rw [stk_none hl]
theorem lemA (hT : Tx c Q Hc ops fs es s sf as) : ∀ k, (∀ j v H', j < k → as[j]? ≠ some (.eff v H')) →
    s.H <+: (stA ops as s k).H ∧ (∀ j l id, j < k → as[j]? = some (.fresh l id) → s.H.length ≤ id ∧ id < (stA ops as s k).H.length ∧ (stA ops as s k).H[id]? = some l.1) ∧
    (∀ m, s.H.length ≤ m → m < (stA ops as s k).H.length → ∃ j l, j < k ∧ as[j]? = some (.fresh l m))
  | 0, _ => by rw [stA_zero]; exact ⟨List.prefix_refl _, fun j _ _ h => by omega, fun m h1 h2 => by omega⟩
  | k + 1, h => by
    obtain ⟨h1, h2, h3⟩ := lemA hT k (fun j v H' hj => h j v H' (by omega))
    have keep : (stA ops as s (k + 1)).H = (stA ops as s k).H → (∀ l id, as[k]? ≠ some (.fresh l id)) → s.H <+: (stA ops as s (k + 1)).H ∧ (∀ j l id, j < k + 1 → as[j]? = some (.fresh l id) → s.H.length ≤ id ∧ id < (stA ops as s (k + 1)).H.length ∧ (stA ops as s (k + 1)).H[id]? = some l.1) ∧
        (∀ m, s.H.length ≤ m → m < (stA ops as s (k + 1)).H.length → ∃ j l, j < k + 1 ∧ as[j]? = some (.fresh l m)) := by
      intro e hn
      rw [e]
      refine ⟨h1, fun j l id hj hf => ?_, fun m g1 g2 => ?_⟩
      · rcases Nat.lt_or_ge j k with g | g
        · exact h2 j l id g hf
        · have : j = k := by omega
          subst this; exact absurd hf (hn l id)
      · obtain ⟨j, l, g3, g4⟩ := h3 m g1 g2
        exact ⟨j, l, by omega, g4⟩
    rcases Nat.lt_or_ge k as.length with hl | hl
    · have hx : as[k]? = some as[k] := by simp [hl]
      have hH := stA_heap (ops := ops) (s := s) hx
      cases hy : as[k] with
      | pan => rw [hy] at hH hx; exact keep hH (fun l id e => by rw [hx] at e; cases e)
      | val v => rw [hy] at hH hx; exact keep hH (fun l id e => by rw [hx] at e; cases e)
      | skip => rw [hy] at hH hx; exact keep hH (fun l id e => by rw [hx] at e; cases e)
      | eff v H' => rw [hy] at hx; exact absurd hx (h k v H' (by omega))
      | fresh l id =>
        rw [hy] at hH hx
        obtain ⟨o, _, _, _, _, hid, _⟩ := hT.at_ k _ hx
        have hid : id = (stA ops as s k).H.length := hid
        simp only [Act4.heap] at hH
        rw [hH]
        have hp : s.H.length ≤ (stA ops as s k).H.length := h1.length_le
        refine ⟨h1.trans (List.prefix_append _ _), fun j l' id' hj hf => ?_, fun m g1 g2 => ?_⟩
        · rcases Nat.lt_or_ge j k with g | g
          · obtain ⟨g1, g2, g3⟩ := h2 j l' id' g hf
            exact ⟨g1, by simp; omega, by rw [List.getElem?_append_left g2]; exact g3⟩
          · have : j = k := by omega
            subst this
            rw [hx] at hf; simp only [Option.some.injEq, Act4.fresh.injEq] at hf
            obtain ⟨rfl, rfl⟩ := hf
            exact ⟨by omega, by simp; omega, by rw [hid]; simp⟩
        · rcases Nat.lt_or_ge m (stA ops as s k).H.length with g | g
          · obtain ⟨j, l', g3, g4⟩ := h3 m g1 g
            exact ⟨j, l', by omega, g4⟩
          · have : m = id := by simp at g2; omega
            subst this; exact ⟨k, l, by omega, hx⟩
    · have e : stA ops as s (k + 1) = stA ops as s k := by unfold stA; exact stk_none hl
      exact keep (by rw [e]) (fun l id hh => by rw [List.getElem?_eq_none hl] at hh; cases hh)
theorem tx_reads (hT : Tx c Q Hc ops fs es s sf as) (hc : ChkC ops b fs es) {listed : Array Bool} (hsz : listed.size = ops.size) (hcl : Closed ops b listed) {i : Nat} (hi : i ∈ Region.ready .any ops listed) {o : Oper} (ho : ops[i]? = some o) {t : Tmp}
    (ht : t ∈ opTmps o ∨ t ∈ guardTmp ops o) : sget (slL sf s ops listed) t = sget (stA ops as s i).sl t := by
  obtain ⟨hin, hnl, _⟩ := (mem_ready' hsz).1 hi
  have hold : (∀ j, j < i → dstOf ops j ≠ some t) → sget (stA ops as s i).sl t = sget s.sl t := fun h => by
    have := stA_between (ops := ops) (as := as) (s := s) (k := 0) (t := t) i (fun j _ hj => h j (by omega))
    rwa [Nat.zero_add, stA_zero] at this
  by_cases hex : ∃ j, j < ops.size ∧ dstOf ops j = some t
  · obtain ⟨j, hj, hd⟩ := hex
    have huniq : ∀ j', j' < ops.size → j' ≠ j → dstOf ops j' ≠ some t := fun j' h1 h2 => hc.dsts j j' hj h1 (Ne.symm h2) t hd
    rcases hc.tmps i o ho t ht j hj hd with h | ⟨h1, h2⟩ | ⟨h1, h2⟩
    · subst h
      rw [slL_out (fun j' h1 h2 => huniq j' h1 (fun e => by subst e; rw [hnl] at h2; cases h2)), hold (fun j' h1 => huniq j' (by omega) (by omega))]
    · have hl := readyC hc hsz hcl hi hj h2
      rw [slL_in hj hl hd, hT.fin]
      have := stA_between (ops := ops) (as := as) (s := s) (k := i) (t := t) (ops.size - i) (fun j' h3 h4 => huniq j' (by omega) (by omega))
      rw [show i + (ops.size - i) = ops.size by omega] at this
      exact this
    · have hl : isIn listed j = false := by
        cases hb : isIn listed j with
        | false => rfl
        | true => have := hcl j i hj hin hb h2; rw [hnl] at this; cases this
      rw [slL_out (fun j' h3 h4 => huniq j' h3 (fun e => by subst e; rw [hl] at h4; cases h4)), hold (fun j' h3 => huniq j' (by omega) (by omega))]
  · have hno : ∀ j, j < ops.size → dstOf ops j ≠ some t := fun j h1 h2 => hex ⟨j, h1, h2⟩
    rw [slL_out (fun j h1 _ => hno j h1), hold (fun j h1 => hno j (by omega))]
theorem tx_out (hT : Tx c Q Hc ops fs es s sf as) (hc : ChkC ops b fs es) {i : Nat} {x : Act4} (hx : as[i]? = some x) {t : Tmp} (hd : dstOf ops i = some t) : sget sf.sl t = x.out := by
  have hi : i < ops.size := by have := lt_of_get? hx; rw [hT.len] at this; exact this
  have := stA_between (ops := ops) (as := as) (s := s) (k := i + 1) (t := t) (ops.size - (i + 1)) (fun j' h3 h4 => hc.dsts i j' hi (by omega) (by omega) t hd)
  rw [show i + 1 + (ops.size - (i + 1)) = ops.size by omega] at this
  rw [hT.fin]
  refine Eq.trans this ?_
  rw [stA_succ hx, hd]; exact upd_eq
theorem slL_step (hT : Tx c Q Hc ops fs es s sf as) (hc : ChkC ops b fs es) {listed : Array Bool} (hsz : listed.size = ops.size) {i : Nat} (hi : i < ops.size) {x : Act4} (hx : as[i]? = some x) {o : Oper} (ho : ops[i]? = some o) (H : List AObj) (df : List ADef) :
    ∀ t, sget (slL sf s ops (listed.setIfInBounds i true)) t = sget (St.put ⟨slL sf s ops listed, H, df⟩ o.dst x.out).sl t := by
  have hdo : dstOf ops i = o.dst := by unfold dstOf; rw [ho]; rfl
  intro t
  by_cases hd : o.dst = some t
  · rw [hd, sget_put_eq, slL_in hi (by rw [isIn_set (by omega)]; simp) (by rw [hdo]; exact hd)]
    exact tx_out hT hc hx (by rw [hdo]; exact hd)
  · rw [sget_put_ne hd]
    by_cases hex : ∃ j, j < ops.size ∧ isIn listed j = true ∧ dstOf ops j = some t
    · obtain ⟨j, h1, h2, h3⟩ := hex
      rw [slL_in h1 (by rw [isIn_set (by omega), h2]; rfl) h3]
      exact (slL_in h1 h2 h3).symm
    · rw [slL_out (fun j h1 h2 h3 => ?_), slL_out (fun j h1 h2 h3 => hex ⟨j, h1, h2, h3⟩)]
      rw [isIn_set (by omega)] at h2
      simp only [Bool.or_eq_true, decide_eq_true_eq] at h2
      rcases h2 with h2 | h2
      · exact hex ⟨j, h1, h2, h3⟩
      · subst h2; rw [hdo] at h3; exact hd h3
end main
end Go.Ab
namespace Go.Ab
variable [Tabs]
section main
variable {c : Ctx} {Q : AExit → St → Prop} {Hc : List AObj} {ops : Array Oper} {fs es : List Nat} {b : Array Nat} {as : List Act4} {s sf : St}
def Phase (ops : Array Oper) (as : List Act4) (s : St) (kf : Nat) (listed : Array Bool) (e : Env) : Prop :=
  (∃ k, e.H = (stA ops as s k).H ∧ HSub Hc e.H ∧ (∀ (j : Nat) (l : AObj × AV) (id : Nat), as[j]? = some (Act4.fresh l id) → isIn listed j = true) ∧
    (∀ j x, j < k → as[j]? = some x → special x → isIn listed j = true) ∧ (∀ j x, k ≤ j → as[j]? = some x → special x → isIn listed j = false)) ∨
  ((∀ (j : Nat) (v : AV) (H' : List AObj), as[j]? = some (Act4.eff v H') → isIn listed j = false) ∧ e.H.length = (stA ops as s kf).H.length ∧ s.H <+: e.H ∧
    ∀ (k : Nat) (l : AObj × AV) (id : Nat), as[k]? = some (Act4.fresh l id) → (isIn listed k = true → e.H[id]? = some l.1) ∧ (isIn listed k = false → e.H[id]? = some .dead ∧ e.μ id = none))
structure PC (c : Ctx) (Hc : List AObj) (ops : Array Oper) (as : List Act4) (s sf : St) (kf : Nat) (listed : Array Bool) (e : Env) (a : Act) : Prop where
  sim : Sim c ⟨slL sf s ops listed, e.H, s.df⟩ e a
  ph : Phase (Hc := Hc) ops as s kf listed e
theorem all_fresh (hT : Tx c Q Hc ops fs es s sf as) {kf i : Nat} {e : Env} (hk1 : ∀ (j : Nat) (v : AV) (H' : List AObj), j < kf → as[j]? ≠ some (Act4.eff v H')) (hk2 : ∀ (j : Nat) (l : AObj × AV) (id : Nat), kf ≤ j → as[j]? ≠ some (Act4.fresh l id))
    (hi : ∀ (j : Nat) (v : AV) (H' : List AObj), j < i → as[j]? ≠ some (Act4.eff v H')) (hki : kf ≤ i) (hlen : e.H.length = (stA ops as s kf).H.length) (hp : s.H <+: e.H)
    (hn : ∀ (k : Nat) (l : AObj × AV) (id : Nat), as[k]? = some (Act4.fresh l id) → e.H[id]? = some l.1) : e.H = (stA ops as s i).H := by
  have h1 : (stA ops as s i).H = (stA ops as s kf).H := by
    have := stA_same (ops := ops) (as := as) (s := s) (k := kf) (i - kf) (fun j x g1 g2 g3 => by
      cases x with
      | pan => exact id
      | val v => exact id
      | skip => exact id
      | fresh l id => exact absurd g3 (hk2 j l id g1)
      | eff v H' => exact absurd g3 (hi j v H' (by omega)))
    rwa [show kf + (i - kf) = i by omega] at this
  rw [h1]
  obtain ⟨a1, a2, a3⟩ := lemA hT kf hk1
  apply List.ext_getElem?
  intro n
  rcases Nat.lt_or_ge n s.H.length with h | h
  · obtain ⟨X, hX⟩ := hp
    obtain ⟨Y, hY⟩ := a1
    rw [← hX, ← hY, List.getElem?_append_left h, List.getElem?_append_left h]
  · rcases Nat.lt_or_ge n (stA ops as s kf).H.length with h2 | h2
    · obtain ⟨j, l, g1, g2⟩ := a3 n h h2
      rw [hn j l n g2, (a2 j l n g1 g2).2.2]
    · rw [List.getElem?_eq_none h2, List.getElem?_eq_none (by omega)]
theorem pc_start {e : Env} {a : Act} (hT : Tx c Q Hc ops fs es s sf as) {kf : Nat} (hk1 : ∀ (j : Nat) (v : AV) (H' : List AObj), j < kf → as[j]? ≠ some (Act4.eff v H')) (hk2 : ∀ (j : Nat) (l : AObj × AV) (id : Nat), kf ≤ j → as[j]? ≠ some (Act4.fresh l id)) (hs : Sim c s e a) (n : Nat) :
    ∃ e', e'.w = { e.w with drawn := e.w.drawn + 1 } ∧ PC c Hc ops as s sf kf (Array.replicate n false) e' a := by
  obtain ⟨⟨X, hX⟩, a2, a3⟩ := lemA hT kf hk1
  have hs1 := hs.ext (EnvOK.drew hs.ok)
  generalize he1 : ({ e with w := { e.w with drawn := e.w.drawn + 1 } } : Env) = e1 at hs1
  have hw : e1.w = { e.w with drawn := e.w.drawn + 1 } := by rw [← he1]
  obtain ⟨e2, he2⟩ : ∃ e2 : Env, e2 = { H := e1.H ++ List.replicate X.length .dead, μ := fun i => if i < e1.H.length then e1.μ i else none, G := e1.G, w := e1.w } := ⟨_, rfl⟩
  have hT' : ∀ i, e2.T i = e1.T i := fun i => by
    rw [he2]; unfold Env.T
    rcases Nat.lt_or_ge i e1.H.length with h | h
    · simp [List.getElem?_append_left h]
    · rw [List.getElem?_append_right h, List.getElem?_eq_none h, List.getElem?_replicate]
      split <;> rfl
  have le : e1.Le e2 := by
    refine ⟨by rw [he2]; simp, fun i hi ht => ⟨by rw [hT']; exact ht, fun _ hb => by rw [he2]; simpa [hi] using hb⟩, fun b off ho => by rw [he2]; exact ⟨ho, rfl⟩, fun i n ht => ⟨n, by rw [hT']; exact ht, Nat.le_refl _, fun _ => ?_⟩⟩
    have hi : i < e1.H.length := by
      rcases Nat.lt_or_ge i e1.H.length with k | k
      · exact k
      · unfold Env.T at ht; rw [List.getElem?_eq_none k] at ht; simp [tokOf] at ht
    rw [he2]
    exact ⟨by simp [hi], fun b cs t _ hh => ⟨rfl, cs, hh, rfl⟩⟩
  have hlt : ∀ i, i < e2.H.length → ∀ b, e2.μ i = some b → i < e1.H.length ∧ e1.μ i = some b := fun i _ b hb => by
    rw [he2] at hb
    simp only at hb
    by_cases h : i < e1.H.length
    · rw [if_pos h] at hb; exact ⟨h, hb⟩
    · rw [if_neg h] at hb; cases hb
  have hno : ∀ j, isIn (Array.replicate n false) j = false := fun j => by
    unfold isIn; rw [Array.getD_eq_getD_getElem?, Array.getElem?_replicate]; split <;> rfl
  have hsl : ∀ t, sget (slL sf s ops (Array.replicate n false)) t = sget s.sl t := fun t => slL_out (fun j _ h => by rw [hno] at h; cases h)
  refine ⟨e2, by rw [he2]; exact hw, ⟨hs1.size, fun t => ?_, hs1.defers.mono le, rfl, ⟨by rw [he2]; exact hs1.ok.fresh, fun i o ho => ?_, fun i j b hi hj h1 h2 => ?_, fun i b hi h1 => ?_, hs1.ok.tabs.sub (by rw [he2]) fun i b hi h1 => ⟨i, (hlt i hi b h1).1, (hlt i hi b h1).2⟩⟩, ⟨by rw [he2]; exact hs1.fr.size, by rw [he2]; exact hs1.fr.still, by rw [he2]; exact hs1.fr.heap, fun i b hi h1 => ?_, hs1.fr.le.trans le⟩⟩, .inr ⟨fun j _ _ _ => hno j, ?_, ?_, fun k l id hk => ⟨fun h => ?_, fun _ => ?_⟩⟩⟩
  · simp only [hsl]; exact Rep.mono le _ (hs1.slots t)
  · rcases Nat.lt_or_ge i e1.H.length with h | h
    · have ho' : e1.H[i]? = some o := by rw [he2] at ho; simpa [List.getElem?_append_left h] using ho
      exact ObjSim.mono le (hs1.ok.objs i o ho') (by rw [he2]; simp [h]) (fun _ _ => by rw [he2]; exact ⟨rfl, rfl⟩)
    · rw [he2] at ho
      simp only [List.getElem?_append_right h, List.getElem?_replicate] at ho
      split at ho
      · simp only [Option.some.injEq] at ho; subst ho; trivial
      · cases ho
  · obtain ⟨g1, g2⟩ := hlt i hi b h1
    obtain ⟨g3, g4⟩ := hlt j hj b h2
    exact hs1.ok.inj i j b g1 g3 g2 g4
  · obtain ⟨g1, g2⟩ := hlt i hi b h1
    have := hs1.ok.live i b g1 g2
    rw [he2]; exact this
  · obtain ⟨g1, g2⟩ := hlt i hi b h1
    exact hs1.fr.objs i b g1 g2
  · rw [he2, ← hX]; simp [hs1.H]
  · rw [he2, hs1.H]; exact List.prefix_append _ _
  · rw [hno] at h; cases h
  · have hkf : k < kf := by
      rcases Nat.lt_or_ge k kf with h | h
      · exact h
      · exact absurd hk (hk2 k l id h)
    obtain ⟨g1, g2, _⟩ := a2 k l id hkf hk
    rw [he2]
    simp only [hs1.H]
    refine ⟨?_, by rw [if_neg (by omega)]⟩
    rw [List.getElem?_append_right g1, List.getElem?_replicate, if_pos (by rw [← hX] at g2; simp at g2; omega)]
theorem pc_step (hT : Tx c Q Hc ops fs es s sf as) (hc : ChkC ops b fs es) (hbe : b = Region.before ops) (hHc : HSub Hc s.H) {kf : Nat} (hk1 : ∀ (j : Nat) (v : AV) (H' : List AObj), j < kf → as[j]? ≠ some (Act4.eff v H')) (hk2 : ∀ (j : Nat) (l : AObj × AV) (id : Nat), kf ≤ j → as[j]? ≠ some (Act4.fresh l id))
    {listed : Array Bool} (hsz : listed.size = ops.size) (hcl : Closed ops b listed) {i : Nat} (hi : i ∈ Region.ready .any ops listed) {e : Env} {a : Act} (hp : PC c Hc ops as s sf kf listed e a)
    {K : Act → World → Prop} (hK : ∀ e' a', PC c Hc ops as s sf kf (listed.setIfInBounds i true) e' a' → K a' e'.w) : wpOpIn (FW c.r) 0 c.P ops (lift c Q) i K a e.w := by
  obtain ⟨hin, hnl, _⟩ := (mem_ready' hsz).1 hi
  have hil : i < listed.size := by omega
  have hget : ∃ d, as[i]? = some d := ⟨as[i]'(by rw [hT.len]; exact hin), by simp [hT.len, hin]⟩
  obtain ⟨x, hx⟩ := hget
  obtain ⟨o, ho, hdk, hdeed⟩ := hT.at_ i x hx
  have hdo : dstOf ops i = o.dst := by unfold dstOf; rw [ho]; rfl
  have hreads : ∀ t, t ∈ opTmps o ∨ t ∈ guardTmp ops o → sget (slL sf s ops listed) t = sget (stA ops as s i).sl t := fun t ht => tx_reads hT hc hsz hcl hi ho ht
  have hset : ∀ j, isIn (listed.setIfInBounds i true) j = (isIn listed j || decide (j = i)) := fun j => isIn_set hil
  have hsub : HSub Hc e.H := by
    rcases hp.ph with ⟨_, _, h, _⟩ | ⟨_, _, h, _⟩
    · exact h
    · exact hHc.trans (HSub.of_prefix h)
  have hopeq : ∀ x ∈ o.op.operands.toList, St.op ⟨slL sf s ops listed, e.H, s.df⟩ x = (stA ops as s i).op x := by
    intro x hxm
    cases x with
    | tmp t => exact hreads t (.inl (mem_opTmps hxm))
    | const v => rfl
    | global g => rfl
    | func f => rfl
  have hops : ∀ x ∈ o.op.operands.toList, Rep e ((stA ops as s i).op x) (a.eval x) := fun x hxm => by rw [← hopeq x hxm]; exact hp.sim.op x
  have hgt : ∀ t, t ∈ guardTmp ops o → Rep e (sget (stA ops as s i).sl t) (a.tmps.getD t undef) := fun t ht => by rw [← hreads t (.inr ht)]; exact hp.sim.slots t
  have hslst := slL_step hT hc hsz hin hx ho e.H s.df
  have hphQ : ∀ e' : Env, e'.H = e.H → (∀ id, id < e.H.length → e'.μ id = e.μ id) → ¬ special x → Phase (Hc := Hc) ops as s kf (listed.setIfInBounds i true) e' := by
    intro e' hH hμ hns
    have hne : ∀ j y, as[j]? = some y → special y → j ≠ i := fun j y hj hy e => by subst e; rw [hx] at hj; cases hj; exact hns hy
    rcases hp.ph with ⟨k, g1, g2, g3, g4, g5⟩ | ⟨g1, g2, g3, g4⟩
    · refine .inl ⟨k, by rw [hH]; exact g1, by rw [hH]; exact g2, fun j l id hj => by rw [hset, g3 j l id hj]; rfl, fun j y hj hy hsp => by rw [hset, g4 j y hj hy hsp]; rfl, fun j y hj hy hsp => ?_⟩
      rw [hset, g5 j y hj hy hsp]; simpa using hne j y hy hsp
    · refine .inr ⟨fun j v H' hj => ?_, by rw [hH]; exact g2, by rw [hH]; exact g3, fun k l id hk => ?_⟩
      · rw [hset, g1 j v H' hj]; simpa using hne j _ hj trivial
      · have hki := hne k _ hk trivial
        have hkf : k < kf := by
          rcases Nat.lt_or_ge k kf with h | h
          · exact h
          · exact absurd hk (hk2 k l id h)
        obtain ⟨_, q2, _⟩ := (lemA hT kf hk1).2.1 k l id hkf hk
        have : decide (k = i) = false := by simpa using hki
        rw [hset, this, Bool.or_false, hH, hμ id (by omega)]
        exact g4 k l id hk
  unfold wpOpIn
  simp only [ho]
  cases x with
  | pan =>
    obtain ⟨hg, hpan⟩ := hdeed
    have hw : Region.wanted o (yielded ops a.tmps) = true := by unfold Region.wanted; rw [hg]
    rw [if_pos hw]
    exact hpan ⟨slL sf s ops listed, e.H, s.df⟩ (stA_df ops as s i).symm hopeq e a hp.sim _
  | val v =>
    obtain ⟨hg, hev⟩ := hdeed
    have hw := guard_wanted (e := e) hp.sim.size hg hgt
    rw [if_pos hw]
    obtain ⟨Hx, hsx, hev⟩ : ∃ Hx, HSub Hx e.H ∧ Ev c.P c.r o Hx (stA ops as s i).op v := by
      rcases hev with hev | ⟨hea, hev⟩
      · exact ⟨Hc, hsub, hev⟩
      · refine ⟨_, ?_, hev⟩
        unfold early at hea
        rw [Bool.and_eq_true] at hea
        have hfs : fs = [] := List.isEmpty_iff.1 hea.1
        have hE : ∀ (j : Nat) (v : AV) (H' : List AObj), as[j]? = some (Act4.eff v H') → i < j ∧ isIn listed j = false := fun j v H' hj => by
          obtain ⟨o', ho', _, hd'⟩ := hT.at_ j _ hj
          have hm : j ∈ es := by have := hd'.2.1; simpa using this
          have hq := List.all_eq_true.1 hea.2 j hm
          rw [Bool.and_eq_true, Nat.blt_eq] at hq
          refine ⟨hq.1, ?_⟩
          cases hl : isIn listed j with
          | false => rfl
          | true =>
            have h7 := hcl j i (Array.getElem?_eq_some_iff.1 ho').1 hin hl (by rw [hbe]; exact hq.2)
            rw [hnl] at h7; cases h7
        have hF : ∀ (j : Nat) (l : AObj × AV) (id : Nat), as[j]? ≠ some (Act4.fresh l id) := fun j l id hj => by
          obtain ⟨o', _, _, hd'⟩ := hT.at_ j _ hj
          have h7 := hd'.2.1; rw [hfs] at h7; simp at h7
        have hS : ∀ k, (∀ (j : Nat) (v : AV) (H' : List AObj), j < k → as[j]? ≠ some (Act4.eff v H')) → (stA ops as s k).H = s.H := fun k hk => by
          have h7 := stA_same (ops := ops) (as := as) (s := s) (k := 0) k (fun j x _ g2 g3 => by
            cases x with
            | pan => exact id
            | val v => exact id
            | skip => exact id
            | fresh l id => exact absurd g3 (hF j l id)
            | eff v H' => exact absurd g3 (hk j v H' (by omega)))
          rwa [Nat.zero_add, stA_zero] at h7
        show HSub (stA ops as s i).H e.H
        rw [hS i fun j v H' hj hh => by have h7 := (hE j v H' hh).1; omega]
        rcases hp.ph with ⟨k, g1, _, _, g4, _⟩ | ⟨_, _, g3, _⟩
        · rw [g1, hS k fun j v H' hj hh => by have h7 := (hE j v H' hh).2; rw [g4 j _ hj hh trivial] at h7; cases h7]; exact HSub.refl _
        · exact HSub.of_prefix g3
    refine hev e a _ _ hp.sim.ok hsx hops (fun u e' hxt hu => hK e' _ ⟨?_, hphQ e' hxt.H (fun id h => hxt.μ id h) id⟩)
    exact ((hp.sim.ext hxt).put hdk hu).congr hslst (by simp only [hxt.H]; cases o.dst <;> rfl) (by cases o.dst <;> rfl)
  | skip =>
    have hw := guard_wanted (e := e) hp.sim.size hdeed hgt
    rw [if_neg (by rw [hw]; simp)]
    refine ⟨fun _ _ => trivial, hK e _ ⟨?_, hphQ e rfl (fun _ _ => rfl) id⟩⟩
    exact (hp.sim.put (v := .raw (.tuple #[])) (u := undef) hdk (by rw [Rep]; rfl)).congr hslst (by cases o.dst <;> rfl) (by cases o.dst <;> rfl)
  | eff v H' =>
    obtain ⟨hg, hes, heff, hsub'⟩ := hdeed
    have hw : Region.wanted o (yielded ops a.tmps) = true := by unfold Region.wanted; rw [hg]
    rw [if_pos hw]
    have hbefore : ∀ j y, j < i → as[j]? = some y → special y → isIn listed j = true := by
      intro j y hj hy hsp
      refine readyC hc hsz hcl hi (by omega) ?_
      obtain ⟨o', _, _, hd'⟩ := hT.at_ j y hy
      cases y with
      | pan => exact absurd hsp id
      | val v => exact absurd hsp id
      | skip => exact absurd hsp id
      | fresh l id => exact (hc.ef i j hes hd'.2.1).2
      | eff v H' => exact hc.ee i j hes hd'.2.1 hj
    have hfb : ∀ (j : Nat) (l : AObj × AV) (id : Nat), as[j]? = some (Act4.fresh l id) → j < i := fun j l id hj => by
      obtain ⟨o', _, _, hd'⟩ := hT.at_ j _ hj
      exact (hc.ef i j hes hd'.2.1).1
    have hafter : ∀ j y, i < j → as[j]? = some y → special y → isIn listed j = false := by
      intro j y hj hy hsp
      obtain ⟨o', ho', _, hd'⟩ := hT.at_ j y hy
      cases y with
      | pan => exact absurd hsp id
      | val v => exact absurd hsp id
      | skip => exact absurd hsp id
      | fresh l id => have := hfb j l id hy; omega
      | eff v H' =>
        cases hb : isIn listed j with
        | false => rfl
        | true =>
          have hjn : j < ops.size := (Array.getElem?_eq_some_iff.1 ho').1
          have := hcl j i hjn hin hb (hc.ee j i hd'.2.1 hes hj)
          rw [hnl] at this; cases this
    have hH : e.H = (stA ops as s i).H := by
      rcases hp.ph with ⟨k, g1, g2, g3, g4, g5⟩ | ⟨g1, g2, g3, g4⟩
      · rw [g1]
        rcases Nat.lt_or_ge k i with hki | hki
        · have := stA_same (ops := ops) (as := as) (s := s) (k := k) (i - k) (fun j y q1 q2 q3 q4 => by
            have h1 := g5 j y q1 q3 q4
            rw [hbefore j y (by omega) q3 q4] at h1; cases h1)
          rw [show k + (i - k) = i by omega] at this
          exact this.symm
        · have := stA_same (ops := ops) (as := as) (s := s) (k := i) (k - i) (fun j y q1 q2 q3 q4 => by
            have h1 := g4 j y (by omega) q3 q4
            rcases Nat.lt_or_ge i j with q5 | q5
            · rw [hafter j y q5 q3 q4] at h1; cases h1
            · have : j = i := by omega
              subst this; rw [hnl] at h1; cases h1)
          rw [show i + (k - i) = k by omega] at this
          exact this
      · have hno : ∀ (j : Nat) (v : AV) (H' : List AObj), j < i → as[j]? ≠ some (Act4.eff v H') := fun j v H' hj hh => by
          have := g1 j v H' hh
          rw [hbefore j _ hj hh trivial] at this; cases this
        have hki : kf ≤ i := by
          rcases Nat.lt_or_ge i kf with h | h
          · exact absurd hx (hk1 i v H' h)
          · exact h
        exact all_fresh hT hk1 hk2 hno hki g2 g3 (fun k l id hk => (g4 k l id hk).1 (hbefore k _ (hfb k l id hk) hk trivial))
    refine heff ⟨slL sf s ops listed, e.H, s.df⟩ hH (stA_df ops as s i).symm hopeq e a hp.sim K (fun e' a' hs' => hK e' a' ⟨?_, .inl ⟨i + 1, ?_, ?_, fun j l id hj => ?_, fun j y hj hy hsp => ?_, fun j y hj hy hsp => ?_⟩⟩)
    · have he' : e'.H = H' := by rw [hs'.H]; cases o.dst <;> rfl
      refine hs'.congr (fun t => ?_) (by simp only [he']; cases o.dst <;> rfl) (by cases o.dst <;> rfl)
      rw [slL_step hT hc hsz hin hx ho H' s.df t]; rfl
    · have he' : e'.H = H' := by rw [hs'.H]; cases o.dst <;> rfl
      rw [he', stA_heap hx]; rfl
    · have he' : e'.H = H' := by rw [hs'.H]; cases o.dst <;> rfl
      rw [he']; exact hsub'
    · rw [hset, hbefore j _ (hfb j l id hj) hj trivial]; rfl
    · rw [hset]
      rcases Nat.lt_or_ge j i with h | h
      · rw [hbefore j y h hy hsp]; rfl
      · have : j = i := by omega
        simp [this]
    · rw [hset, hafter j y (by omega) hy hsp]; simp; omega
  | fresh l id =>
    obtain ⟨hg, hfs, hid, hfr⟩ := hdeed
    have hw : Region.wanted o (yielded ops a.tmps) = true := by unfold Region.wanted; rw [hg]
    rw [if_pos hw]
    rcases hp.ph with ⟨k, g1, g2, g3, g4, g5⟩ | ⟨g1, g2, g3, g4⟩
    · have := g3 i l id hx; rw [hnl] at this; cases this
    have hkf : ∀ (k : Nat) (l : AObj × AV) (id : Nat), as[k]? = some (Act4.fresh l id) → k < kf := fun k l id hk => by
      rcases Nat.lt_or_ge k kf with h | h
      · exact h
      · exact absurd hk (hk2 k l id h)
    obtain ⟨a1, a2, a3⟩ := lemA hT kf hk1
    obtain ⟨hdead, hμ⟩ := (g4 i l id hx).2 hnl
    have hidl := lt_of_get? hdead
    refine hfr ⟨slL sf s ops listed, e.H, s.df⟩ e a hp.sim hsub hops hdead hμ K (fun e' a' hs' hμ' => ?_)
    have he' : e'.H = e.H.set id l.1 := by rw [hs'.H]; cases o.dst <;> rfl
    refine hK e' a' ⟨?_, .inr ⟨fun j v H' hj => ?_, by rw [he', List.length_set]; exact g2, ?_, fun k l' id' hk => ?_⟩⟩
    · refine hs'.congr (fun t => ?_) (by simp only [he']; cases o.dst <;> rfl) (by cases o.dst <;> rfl)
      rw [slL_step hT hc hsz hin hx ho (e.H.set id l.1) s.df t]; rfl
    · rw [hset, g1 j v H' hj]
      have : j ≠ i := fun e => by subst e; rw [hx] at hj; cases hj
      simpa using this
    · obtain ⟨X, hX⟩ := g3
      have := (a2 i l id (hkf i l id hx) hx).1
      refine ⟨X.set (id - s.H.length) l.1, ?_⟩
      rw [he', ← hX, List.set_append_right _ _ this]
    · rw [hset]
      by_cases hki : k = i
      · subst hki
        rw [hx] at hk; simp only [Option.some.injEq, Act4.fresh.injEq] at hk
        obtain ⟨rfl, rfl⟩ := hk
        exact ⟨fun _ => by rw [he', List.getElem?_set_self hidl], fun h => by simp at h⟩
      · have hne : id' ≠ id := by
          have hlt : ∀ (k k' : Nat) (l l' : AObj × AV) (id id' : Nat), k < k' → as[k]? = some (Act4.fresh l id) → as[k']? = some (Act4.fresh l' id') → id < id' := by
            intro k k' l l' id id' hkk hk hk'
            obtain ⟨_, _, _, _, _, q, _⟩ := hT.at_ k' _ hk'
            have q : id' = (stA ops as s k').H.length := q
            have := (lemA hT k' (fun j v H' hj => hk1 j v H' (by have := hkf k' l' id' hk'; omega))).2.1 k l id hkk hk
            omega
          rcases Nat.lt_or_gt_of_ne hki with h | h
          · have := hlt k i l' l id' id h hk hx; omega
          · have := hlt i k l l' id id' h hx hk; omega
        have : decide (k = i) = false := by simpa using hki
        rw [this, Bool.or_false]
        obtain ⟨q1, q2⟩ := g4 k l' id' hk
        refine ⟨fun h => ?_, fun h => ?_⟩
        · rw [he', List.getElem?_set_ne (Ne.symm hne)]; exact q1 h
        · obtain ⟨q3, q4⟩ := q2 h
          rw [he', List.getElem?_set_ne (Ne.symm hne), hμ' id' (lt_of_get? q3) hne]; exact ⟨q3, q4⟩
/-- **A region that draws its order and changes objects.** fs: where boxes are laid in any order; es: what changes objects, in the order of the text. -/
theorem aw_drawc {id : Nat} {Q : AExit → St → Prop} {l : List Oper} (fs es : List Nat) (Hc : List AObj) {s : St} (hm : c.P.follows .mixedOrders = true) (hok : drawOKc l.toArray fs es = true) (hHc : HSub Hc s.H) (h : DC c Hc l.toArray fs es Q 0 l s) :
    AWP c (.region id l.toArray true) Q s := by
  obtain ⟨as, sf, hlen, hval, hQ⟩ := h (Nat.zero_le _) (by simp)
  generalize l.toArray = ops at *
  have hlen : as.length = ops.size := by omega
  have hc := chkC_of hok
  have hT : Tx c Q Hc ops fs es s sf as := ⟨hlen, by rw [dv_fin as 0 s sf hval, hlen], fun k x hk => by have := dv_at as 0 s sf hval k x hk; simpa only [Nat.zero_add] using this⟩
  obtain ⟨kf, hk1, hk2⟩ : ∃ kf, (∀ (j : Nat) (v : AV) (H' : List AObj), j < kf → as[j]? ≠ some (Act4.eff v H')) ∧ (∀ (j : Nat) (l : AObj × AV) (id : Nat), kf ≤ j → as[j]? ≠ some (Act4.fresh l id)) := by
    by_cases hex : ∃ i : Nat, ∃ (v : AV) (H' : List AObj), as[i]? = some (Act4.eff v H')
    · obtain ⟨i, ⟨v, H', hi⟩, hmin⟩ := least_of hex
      refine ⟨i, fun j v H' hj hh => hmin j hj ⟨v, H', hh⟩, fun j l id hj hh => ?_⟩
      obtain ⟨_, _, _, _, he, _⟩ := hT.at_ i _ hi
      obtain ⟨_, _, _, _, hf, _⟩ := hT.at_ j _ hh
      have := (hc.ef i j he hf).1
      omega
    · exact ⟨as.length, fun j v H' _ hh => hex ⟨j, v, H', hh⟩, fun j l id hj hh => by rw [List.getElem?_eq_none hj] at hh; cases hh⟩
  intro e a hs
  refine wpIn_region_any hm ?_
  obtain ⟨e1, hw1, hp1⟩ := pc_start (Hc := Hc) hT hk1 hk2 hs ops.size
  rw [← hw1]
  have fin : ∀ (listed : Array Bool) (e : Env) (a : Act), (∀ j, j < ops.size → isIn listed j = true) → PC c Hc ops as s sf kf listed e a → lift c Q .normal a e.w := by
    intro listed e a hall hp
    have hsl : ∀ t, sget sf.sl t = sget (slL sf s ops listed) t := fun t => by
      by_cases hex : ∃ j, j < ops.size ∧ dstOf ops j = some t
      · obtain ⟨j, h1, h2⟩ := hex
        rw [slL_in h1 (hall j h1) h2]
      · rw [slL_out (fun j h1 _ h2 => hex ⟨j, h1, h2⟩), hT.fin]
        have := stA_between (ops := ops) (as := as) (s := s) (k := 0) (t := t) ops.size (fun j _ h1 h2 => hex ⟨j, by omega, h2⟩)
        rw [Nat.zero_add, stA_zero] at this
        exact this
    have hH : sf.H = e.H := by
      have hf : sf.H = (stA ops as s ops.size).H := by rw [hT.fin]; rfl
      rw [hf]
      rcases hp.ph with ⟨k, g1, g2, g3, g4, g5⟩ | ⟨g1, g2, g3, g4⟩
      · rw [g1]
        have hcase : ∀ d, (stA ops as s (k + d)).H = (stA ops as s k).H := fun d => stA_same d (fun j y q1 q2 q3 q4 => by
          have h1 := g5 j y q1 q3 q4
          rw [hall j (by have := lt_of_get? q3; omega)] at h1; cases h1)
        rcases Nat.lt_or_ge k ops.size with hki | hki
        · have := hcase (ops.size - k)
          rwa [show k + (ops.size - k) = ops.size by omega] at this
        · have hover : ∀ d, (stA ops as s (ops.size + d)).H = (stA ops as s ops.size).H := fun d => stA_same d (fun j y q1 q2 q3 q4 => by have := lt_of_get? q3; omega)
          have := hover (k - ops.size)
          rw [show ops.size + (k - ops.size) = k by omega] at this
          exact this.symm
      · have hno : ∀ (j : Nat) (v : AV) (H' : List AObj), as[j]? ≠ some (Act4.eff v H') := fun j v H' hh => by
          have := g1 j v H' hh
          rw [hall j (by have := lt_of_get? hh; omega)] at this; cases this
        rcases Nat.lt_or_ge ops.size kf with hq | hq
        · have := all_fresh (e := e) hT (kf := kf) (i := kf) hk1 hk2 (fun j v H' _ => hno j v H') (Nat.le_refl _) g2 g3 (fun k l id hk => (g4 k l id hk).1 (hall k (by have := lt_of_get? hk; omega)))
          rw [this]
          have hover : ∀ d, (stA ops as s (ops.size + d)).H = (stA ops as s ops.size).H := fun d => stA_same d (fun j y q1 q2 q3 q4 => by have := lt_of_get? q3; omega)
          have := hover (kf - ops.size)
          rw [show ops.size + (kf - ops.size) = kf by omega] at this
          exact this.symm
        · exact (all_fresh (e := e) hT hk1 hk2 (fun j v H' _ => hno j v H') hq g2 g3 (fun k l id hk => (g4 k l id hk).1 (hall k (by have := lt_of_get? hk; omega)))).symm
    refine ⟨.normal, sf, e, hQ, rfl, hp.sim.congr hsl hH ?_, rfl⟩
    rw [hT.fin]; exact stA_df ops as s ops.size
  have key : ∀ (fuel : Nat) (listed : Array Bool) (e : Env) (a : Act), left listed ops.size ≤ fuel → listed.size = ops.size → Closed ops (Region.before ops) listed → PC c Hc ops as s sf kf listed e a →
      wpAnyIn (FW c.r) 0 c.P .any ops (lift c Q) fuel listed a e.w := by
    intro fuel
    have hready : ∀ (listed : Array Bool), listed.size = ops.size → Region.ready .any ops listed = [] → ∀ j, j < ops.size → isIn listed j = true := by
      intro listed hsz hnone j
      induction j using Nat.strongRecOn with
      | _ n ihn =>
        intro hn
        cases hb : isIn listed n with
        | true => rfl
        | false =>
          have : n ∈ Region.ready .any ops listed := (mem_ready' hsz).2 ⟨hn, hb, fun o ho ed he hbd => by
            have := hc.edges n o ho ed he hbd
            exact ihn ed.on this (by omega)⟩
          rw [hnone] at this; cases this
    induction fuel with
    | zero =>
      intro listed e a hf hsz hcl hp
      have hall := left_zero (listed := listed) ops.size (by omega)
      refine ⟨?_, fin listed e a hall hp⟩
      apply List.eq_nil_iff_forall_not_mem.2
      intro i hi
      obtain ⟨h1, h2, _⟩ := (mem_ready' hsz).1 hi
      rw [hall i h1] at h2; cases h2
    | succ fuel ih =>
      intro listed e a hf hsz hcl hp
      refine ⟨fun hnone => fin listed e a (hready listed hsz hnone) hp, fun i hi => ?_⟩
      obtain ⟨hin, hif, _⟩ := (mem_ready' hsz).1 hi
      refine pc_step hT hc rfl hHc hk1 hk2 hsz hcl hi hp (fun e' a' hp' => ih _ e' a' ?_ (by simpa using hsz) (closedC hc hsz hcl hi) hp')
      have := left_set (by omega) hif ops.size hin; omega
  refine key ops.size (Array.replicate ops.size false) e1 a ?_ (by simp) (fun j k _ _ h => ?_) hp1
  · rw [left_init ops.size ops.size (Nat.le_refl _)]; exact Nat.le_refl _
  · unfold isIn at h; rw [Array.getD_eq_getD_getElem?, Array.getElem?_replicate] at h; split at h <;> cases h
end main
end Go.Ab
