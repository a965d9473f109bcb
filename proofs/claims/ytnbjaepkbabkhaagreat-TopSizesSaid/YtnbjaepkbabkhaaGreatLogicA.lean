/-
  A part of the proof: conditions: none beyond each theorem's own.
-/
import Derived.RangeFuncIn
import Derived.DefersIn
import Derived.RangeFuncLeaves
import Derived.Laws.World
import Derived.Laws.Sem
import Derived.Laws.CopyRow
import Derived.RangeFuncCalls
import Derived.IntWalk
import Derived.Deep.AppendSrc
set_option linter.all false
namespace Go.Ab
inductive AV where
  | any
  | raw (v : Value)
  | agg (l : List AV)
  | tup (l : List AV)
  | ptr (i off : Nat)
  | iptr (l : List AV)
  | sl (sz : Nat) (es : List (List AV))
  | slx (sz : Nat) (es : List (List AV))
  | own (i sz : Nat) (es : List (List AV))
  | msl (i off len cap : Nat)
  | mslp (i off len : Nat)
  | ownb (i sz : Nat) (t : TypeId) (es : List (List AV))
  | uptr (i n : Nat)
  | fn (f : Fn) (first cap : List AV)
  | ifc (t : TypeId) (a : AV)
  | mp (i : Nat)
  | cnd (b : Bool) (a : AV)
  deriving Inhabited
inductive AObj where
  | cells (l : List AV)
  | tok (n : Nat)
  | map (es : List (Value × Value))
  | raw (o : Obj)
  | pre (l : List AV)
  | tcells (t : TypeId) (l : List AV)
  | dead
  deriving Inhabited
structure Env where
  H : List AObj
  μ : Nat → Option Nat
  G : Nat → Nat
  w : World
def tokOf : Option AObj → Option Nat
  | some (.tok n) => some n
  | _ => none
def Env.T (e : Env) (i : Nat) : Option Nat := tokOf (e.H[i]?)
abbrev isCell (v : Value) : Bool := v.oneCell'
def TailOK (e : Env) (i b lo hi : Nat) : Prop :=
  e.μ i = some b ∧ e.G b = lo ∧ ∃ cs t, e.w.heap[b]? = some (.cells cs t (0, 0)) ∧ hi ≤ cs.size
mutual
def Rep (e : Env) : AV → Value → Prop
  | .any, _ => True
  | .raw u, v => v = u
  | .agg l, v => ∃ cs : Array Value, v = .agg cs ∧ RepL e l cs.toList ∧ (∀ c ∈ cs.toList, isCell c = true)
  | .tup l, v => ∃ cs : Array Value, v = .tuple cs ∧ RepL e l cs.toList
  | .ptr i off, v => i < e.H.length ∧ e.T i = none ∧ ∃ b, e.μ i = some b ∧ v = .pointer (some ⟨b, off, none⟩)
  | .iptr l, v => ∃ b off, v = .pointer (some ⟨b, off, none⟩) ∧ CellsAt e l b off
  | .sl sz es, v => ∃ a len cap, v = .slice a len cap ∧ len = es.length ∧ len ≤ cap ∧ (a = none → cap = 0) ∧ (∀ c ∈ es, c.length = sz) ∧
      ∀ ad, a = some ad → (cap ≠ 0 → ad.spot = none) ∧ ElemsAt e es ad.block ad.off
  | .slx sz es, v => ∃ a len, v = .slice a len len ∧ len = es.length ∧ (a = none → len = 0) ∧ (∀ c ∈ es, c.length = sz) ∧
      ∀ ad, a = some ad → (len ≠ 0 → ad.spot = none) ∧ ElemsAt e es ad.block ad.off
  | .own i sz es, v => ∃ a len cap, v = .slice a len cap ∧ len = es.length ∧ len ≤ cap ∧ (a = none → cap = 0) ∧ (∀ c ∈ es, c.length = sz) ∧
      (∀ ad, a = some ad → (cap ≠ 0 → ad.spot = none) ∧ ElemsAt e es ad.block ad.off) ∧
      i < e.H.length ∧ (∃ n, e.T i = some n ∧ es.length ≤ n) ∧
      (e.T i = some es.length → ∀ ad, a = some ad → len < cap → TailOK e i ad.block (ad.off + len * sz) (ad.off + cap * sz))
  | .ownb i sz t es, v => ∃ a len cap, v = .slice a len cap ∧ len = es.length ∧ len ≤ cap ∧ (a = none → cap = 0) ∧ (∀ c ∈ es, c.length = sz) ∧
      (∀ ad, a = some ad → (cap ≠ 0 → ad.spot = none) ∧ ElemsAt e es ad.block ad.off) ∧
      i < e.H.length ∧ (∃ n, e.T i = some n ∧ es.length ≤ n) ∧
      (e.T i = some es.length → ∀ ad, a = some ad → ad.off = 0 ∧ e.μ i = some ad.block ∧ e.G ad.block = len * sz ∧ ∃ cs, e.w.heap[ad.block]? = some (.cells cs t (0, 0)) ∧ cap * sz ≤ cs.size)
  | .uptr i n, v => i < e.H.length ∧ (∃ m, e.T i = some m ∧ n ≤ m) ∧ (e.T i = some n → ∃ b, e.μ i = some b ∧ v = .pointer (some ⟨b, 0, none⟩))
  | .msl i off len cap, v => i < e.H.length ∧ e.T i = none ∧ ∃ b, e.μ i = some b ∧ v = .slice (some ⟨b, off, none⟩) len cap ∧ len ≤ cap
  | .mslp i off len, v => i < e.H.length ∧ e.T i = none ∧ ∃ b cap, e.μ i = some b ∧ v = .slice (some ⟨b, off, none⟩) len cap ∧ len ≤ cap
  | .fn f first cap, v => ∃ x y : Array Value, v = .func f x y ∧ RepL e first x.toList ∧ RepL e cap y.toList
  | .ifc t a, v => ∃ x, v = .iface t x ∧ Rep e a x
  | .mp i, v => i < e.H.length ∧ e.T i = none ∧ ∃ b, e.μ i = some b ∧ v = .map (some b)
  | .cnd c a, v => c = true → Rep e a v
def RepL (e : Env) : List AV → List Value → Prop
  | [], vs => vs = []
  | a :: l, vs => ∃ v rest, vs = v :: rest ∧ Rep e a v ∧ RepL e l rest
def CellsAt (e : Env) : List AV → Nat → Nat → Prop
  | [], _, _ => True
  | a :: l, b, off => (off < e.G b ∧ ∃ v, e.w.cell? ⟨b, off, none⟩ = some v ∧ Rep e a v ∧ isCell v = true) ∧ CellsAt e l b (off + 1)
def ElemsAt (e : Env) : List (List AV) → Nat → Nat → Prop
  | [], _, _ => True
  | c :: es, b, off => CellsAt e c b off ∧ ElemsAt e es b (off + c.length)
end
structure Env.Le (e e' : Env) : Prop where
  len : e.H.length ≤ e'.H.length
  obj : ∀ i, i < e.H.length → e.T i = none → e'.T i = none ∧ ∀ b, e.μ i = some b → e'.μ i = some b
  cell : ∀ b off, off < e.G b → off < e'.G b ∧ e'.w.cell? ⟨b, off, none⟩ = e.w.cell? ⟨b, off, none⟩
  tok : ∀ i n, e.T i = some n → ∃ n', e'.T i = some n' ∧ n ≤ n' ∧ (n' = n → e'.μ i = e.μ i ∧
    ∀ b cs t, e.μ i = some b → e.w.heap[b]? = some (.cells cs t (0, 0)) → e'.G b = e.G b ∧ ∃ cs', e'.w.heap[b]? = some (.cells cs' t (0, 0)) ∧ cs'.size = cs.size)
theorem Env.Le.refl (e : Env) : e.Le e :=
  ⟨Nat.le_refl _, fun _ _ h => ⟨h, fun _ hb => hb⟩, fun _ _ h => ⟨h, rfl⟩, fun _ n h => ⟨n, h, Nat.le_refl _, fun _ => ⟨rfl, fun _ cs _ _ h => ⟨rfl, cs, h, rfl⟩⟩⟩⟩
theorem Env.Le.trans {a b c : Env} (h : a.Le b) (k : b.Le c) : a.Le c := by
  refine ⟨Nat.le_trans h.len k.len, fun i hi ht => ?_, fun bl off ho => ?_, fun i n ht => ?_⟩
  · obtain ⟨h1, h2⟩ := h.obj i hi ht
    obtain ⟨k1, k2⟩ := k.obj i (Nat.lt_of_lt_of_le hi h.len) h1
    exact ⟨k1, fun b hb => k2 b (h2 b hb)⟩
  · obtain ⟨h1, h2⟩ := h.cell bl off ho
    obtain ⟨k1, k2⟩ := k.cell bl off h1
    exact ⟨k1, k2.trans h2⟩
  · obtain ⟨n1, t1, l1, f1⟩ := h.tok i n ht
    obtain ⟨n2, t2, l2, f2⟩ := k.tok i n1 t1
    refine ⟨n2, t2, Nat.le_trans l1 l2, fun e => ?_⟩
    have e1 : n1 = n := by omega
    have e2 : n2 = n1 := by omega
    obtain ⟨m1, g1⟩ := f1 e1
    obtain ⟨m2, g2⟩ := f2 e2
    refine ⟨m2.trans m1, fun bl cs t hm hc => ?_⟩
    obtain ⟨x1, cs1, x2, x3⟩ := g1 bl cs t hm hc
    obtain ⟨y1, cs2, y2, y3⟩ := g2 bl cs1 t (m1.trans hm) x2
    exact ⟨y1.trans x1, cs2, y2, y3.trans x3⟩
theorem TailOK.mono {e e' : Env} (h : e.Le e') {i n b lo hi : Nat} (ht : e.T i = some n) (ht' : e'.T i = some n) (k : TailOK e i b lo hi) : TailOK e' i b lo hi := by
  obtain ⟨hm, hg, cs, t, hh, hs⟩ := k
  obtain ⟨n', t1, _, f⟩ := h.tok i n ht
  have : n' = n := by rw [ht'] at t1; exact (Option.some.inj t1).symm
  obtain ⟨m, g⟩ := f this
  obtain ⟨g1, cs', h1, h2⟩ := g b cs t hm hh
  exact ⟨m.trans hm, g1.trans hg, cs', t, h1, by omega⟩
mutual
theorem Rep.mono {e e' : Env} (h : e.Le e') : ∀ (a : AV) {v : Value}, Rep e a v → Rep e' a v
  | .any, _, _ => by rw [Rep]; trivial
  | .raw u, v, k => by rw [Rep] at k ⊢; exact k
  | .agg l, v, k => by
    rw [Rep] at k ⊢; obtain ⟨cs, h1, h2, h3⟩ := k; exact ⟨cs, h1, RepL.mono h l h2, h3⟩
  | .tup l, v, k => by
    rw [Rep] at k ⊢; obtain ⟨cs, h1, h2⟩ := k; exact ⟨cs, h1, RepL.mono h l h2⟩
  | .ptr i off, v, k => by
    rw [Rep] at k ⊢; obtain ⟨h1, h2, b, h3, h4⟩ := k
    obtain ⟨o1, o2⟩ := h.obj i h1 h2
    exact ⟨Nat.lt_of_lt_of_le h1 h.len, o1, b, o2 b h3, h4⟩
  | .iptr l, v, k => by
    rw [Rep] at k ⊢; obtain ⟨b, off, h1, h2⟩ := k; exact ⟨b, off, h1, CellsAt.mono h l h2⟩
  | .sl sz es, v, k => by
    rw [Rep] at k ⊢; obtain ⟨a, len, cap, h1, h2, h3, h4, h5, h6⟩ := k
    exact ⟨a, len, cap, h1, h2, h3, h4, h5, fun ad ha => ⟨(h6 ad ha).1, ElemsAt.mono h es (h6 ad ha).2⟩⟩
  | .slx sz es, v, k => by
    rw [Rep] at k ⊢; obtain ⟨a, len, h1, h2, h4, h5, h6⟩ := k
    exact ⟨a, len, h1, h2, h4, h5, fun ad ha => ⟨(h6 ad ha).1, ElemsAt.mono h es (h6 ad ha).2⟩⟩
  | .own i sz es, v, k => by
    rw [Rep] at k ⊢; obtain ⟨a, len, cap, h1, h2, h3, h4, h5, h6, h7, ⟨n, h8, h9⟩, h10⟩ := k
    refine ⟨a, len, cap, h1, h2, h3, h4, h5, fun ad ha => ⟨(h6 ad ha).1, ElemsAt.mono h es (h6 ad ha).2⟩, Nat.lt_of_lt_of_le h7 h.len, ?_, ?_⟩
    · obtain ⟨n', t1, t2, _⟩ := h.tok i n h8; exact ⟨n', t1, by omega⟩
    · intro ht' ad ha hlt
      obtain ⟨n', t1, t2, _⟩ := h.tok i n h8
      have e1 : n' = es.length := by rw [ht'] at t1; exact (Option.some.inj t1).symm
      have e2 : n = es.length := by omega
      subst e2
      exact TailOK.mono h h8 ht' (h10 h8 ad ha hlt)
  | .ownb i sz t es, v, k => by
    rw [Rep] at k ⊢; obtain ⟨a, len, cap, h1, h2, h3, h4, h5, h6, h7, ⟨n, h8, h9⟩, h10⟩ := k
    refine ⟨a, len, cap, h1, h2, h3, h4, h5, fun ad ha => ⟨(h6 ad ha).1, ElemsAt.mono h es (h6 ad ha).2⟩, Nat.lt_of_lt_of_le h7 h.len, ?_, ?_⟩
    · obtain ⟨n', t1, t2, _⟩ := h.tok i n h8; exact ⟨n', t1, by omega⟩
    · intro ht' ad ha
      obtain ⟨n', t1, t2, _⟩ := h.tok i n h8
      have e1 : n' = es.length := by rw [ht'] at t1; exact (Option.some.inj t1).symm
      have e2 : n = es.length := by omega
      subst e2
      obtain ⟨q1, q2, q3, cs, q4, q5⟩ := h10 h8 ad ha
      obtain ⟨n2, t3, _, f⟩ := h.tok i _ h8
      have e3 : n2 = es.length := by rw [ht'] at t3; exact (Option.some.inj t3).symm
      obtain ⟨m, g⟩ := f e3
      obtain ⟨g1, cs', g2, g3⟩ := g _ cs t q2 q4
      exact ⟨q1, m.trans q2, g1.trans q3, cs', g2, by omega⟩
  | .uptr i n, v, k => by
    rw [Rep] at k ⊢; obtain ⟨h7, ⟨m, h8, h9⟩, h10⟩ := k
    obtain ⟨n', t1, t2, t3⟩ := h.tok i m h8
    refine ⟨Nat.lt_of_lt_of_le h7 h.len, ⟨n', t1, by omega⟩, fun ht' => ?_⟩
    have e1 : n' = n := by rw [ht'] at t1; exact (Option.some.inj t1).symm
    have e2 : m = n := by omega
    subst e2
    obtain ⟨b, q1, q2⟩ := h10 h8
    exact ⟨b, (t3 e1).1.trans q1, q2⟩
  | .msl i off len cap, v, k => by
    rw [Rep] at k ⊢; obtain ⟨h1, h2, b, h3, h4⟩ := k
    obtain ⟨o1, o2⟩ := h.obj i h1 h2
    exact ⟨Nat.lt_of_lt_of_le h1 h.len, o1, b, o2 b h3, h4⟩
  | .mslp i off len, v, k => by
    rw [Rep] at k ⊢; obtain ⟨h1, h2, b, cap, h3, h4⟩ := k
    obtain ⟨o1, o2⟩ := h.obj i h1 h2
    exact ⟨Nat.lt_of_lt_of_le h1 h.len, o1, b, cap, o2 b h3, h4⟩
  | .fn f first cap, v, k => by
    rw [Rep] at k ⊢; obtain ⟨x, y, h1, h2, h3⟩ := k; exact ⟨x, y, h1, RepL.mono h first h2, RepL.mono h cap h3⟩
  | .ifc t a, v, k => by
    rw [Rep] at k ⊢; obtain ⟨x, h1, h2⟩ := k; exact ⟨x, h1, Rep.mono h a h2⟩
  | .mp i, v, k => by
    rw [Rep] at k ⊢; obtain ⟨h1, h2, b, h3, h4⟩ := k
    obtain ⟨o1, o2⟩ := h.obj i h1 h2
    exact ⟨Nat.lt_of_lt_of_le h1 h.len, o1, b, o2 b h3, h4⟩
  | .cnd c a, v, k => by
    rw [Rep] at k ⊢; exact fun hc => Rep.mono h a (k hc)
theorem RepL.mono {e e' : Env} (h : e.Le e') : ∀ (l : List AV) {vs : List Value}, RepL e l vs → RepL e' l vs
  | [], _, k => by rw [RepL] at k ⊢; exact k
  | a :: l, _, k => by
    rw [RepL] at k ⊢; obtain ⟨v, rest, h1, h2, h3⟩ := k; exact ⟨v, rest, h1, Rep.mono h a h2, RepL.mono h l h3⟩
theorem CellsAt.mono {e e' : Env} (h : e.Le e') : ∀ (l : List AV) {b off : Nat}, CellsAt e l b off → CellsAt e' l b off
  | [], _, _, _ => by rw [CellsAt]; trivial
  | a :: l, b, off, k => by
    rw [CellsAt] at k ⊢; obtain ⟨⟨h1, v, h2, h3, h4⟩, h5⟩ := k
    obtain ⟨c1, c2⟩ := h.cell b off h1
    exact ⟨⟨c1, v, c2.trans h2, Rep.mono h a h3, h4⟩, CellsAt.mono h l h5⟩
theorem ElemsAt.mono {e e' : Env} (h : e.Le e') : ∀ (es : List (List AV)) {b off : Nat}, ElemsAt e es b off → ElemsAt e' es b off
  | [], _, _, _ => by rw [ElemsAt]; trivial
  | c :: es, b, off, k => by
    rw [ElemsAt] at k ⊢; exact ⟨CellsAt.mono h c k.1, ElemsAt.mono h es k.2⟩
end
def ObjSim (e : Env) (i : Nat) : AObj → Prop
  | .cells l => ∃ b cs t, e.μ i = some b ∧ e.G b = 0 ∧ e.w.heap[b]? = some (.cells cs t (0, 0)) ∧ RepL e l cs.toList ∧ (∀ c ∈ cs.toList, isCell c = true)
  | .tok _ => True
  | .map es => ∃ b ents clock, e.μ i = some b ∧ e.w.heap[b]? = some (.map ents clock) ∧ ents.toList.map (fun x => (x.key, x.val)) = es
  | .raw o => ∃ b, e.μ i = some b ∧ e.w.heap[b]? = some o ∧ e.G b = 0
  | .tcells t l => ∃ b cs, e.μ i = some b ∧ e.G b = 0 ∧ e.w.heap[b]? = some (.cells cs t (0, 0)) ∧ RepL e l cs.toList ∧ (∀ c ∈ cs.toList, isCell c = true)
  | .pre l => ∃ b cs t m, e.μ i = some b ∧ e.G b = 0 ∧ e.w.heap[b]? = some (.cells cs t (0, 0)) ∧ RepL e (l ++ List.replicate m .any) cs.toList ∧ (∀ c ∈ cs.toList, isCell c = true)
  | .dead => True
class Tabs where
  blk : Nat → Prop
  is : World → Prop
  mono : ∀ {w w' : World}, (∀ b, blk b → w'.heap[b]? = w.heap[b]?) → is w → is w'
def TabsOK [Tabs] (e : Env) : Prop := Tabs.is e.w ∧ ∀ b, Tabs.blk b → b < e.w.heap.size ∧ ∀ i, i < e.H.length → e.μ i ≠ some b
theorem TabsOK.of [Tabs] {e e' : Env} (h : TabsOK e) (hs : e.w.heap.size ≤ e'.w.heap.size) (hh : ∀ b, b < e.w.heap.size → (∀ i, i < e.H.length → e.μ i ≠ some b) → e'.w.heap[b]? = e.w.heap[b]?)
    (hm : ∀ i b, i < e'.H.length → e'.μ i = some b → e.w.heap.size ≤ b ∨ ∃ j, j < e.H.length ∧ e.μ j = some b) : TabsOK e' := by
  refine ⟨Tabs.mono (fun b hb => hh b (h.2 b hb).1 (h.2 b hb).2) h.1, fun b hb => ⟨Nat.lt_of_lt_of_le (h.2 b hb).1 hs, fun i hi he => ?_⟩⟩
  rcases hm i b hi he with k | ⟨j, hj, k⟩
  · have := (h.2 b hb).1; omega
  · exact (h.2 b hb).2 j hj k
theorem TabsOK.sub [Tabs] {e e' : Env} (h : TabsOK e) (hw : e'.w = e.w) (hm : ∀ i b, i < e'.H.length → e'.μ i = some b → ∃ j, j < e.H.length ∧ e.μ j = some b) : TabsOK e' :=
  h.of (by rw [hw]; exact Nat.le_refl _) (fun b _ _ => by rw [hw]) fun i b hi he => .inr (hm i b hi he)
theorem TabsOK.tok [Tabs] {e : Env} (h : TabsOK e) (n : Nat) : TabsOK { H := e.H ++ [.tok n], μ := fun i => if i = e.H.length then none else e.μ i, G := e.G, w := e.w } :=
  h.sub rfl fun i b hi h1 => by
    have hi' : i < e.H.length + 1 := by simpa using hi
    simp only at h1
    by_cases e1 : i = e.H.length
    · rw [if_pos e1] at h1; cases h1
    · rw [if_neg e1] at h1; exact ⟨i, by omega, h1⟩
variable [Tabs]
structure EnvOK (e : Env) : Prop where
  fresh : ∀ b, e.w.heap.size ≤ b → e.G b = 0
  objs : ∀ i o, e.H[i]? = some o → ObjSim e i o
  inj : ∀ i j b, i < e.H.length → j < e.H.length → e.μ i = some b → e.μ j = some b → i = j
  live : ∀ i b, i < e.H.length → e.μ i = some b → b < e.w.heap.size
  tabs : TabsOK e
def Still (w w' : World) : Prop := w'.os = w.os ∧ w'.output = w.output
theorem Still.refl (w : World) : Still w w := ⟨rfl, rfl⟩
theorem Still.trans {a b c : World} (h : Still a b) (k : Still b c) : Still a c := ⟨k.1.trans h.1, k.2.trans h.2⟩
structure Ext (e e' : Env) : Prop where
  H : e'.H = e.H
  μ : ∀ i, i < e.H.length → e'.μ i = e.μ i
  size : e.w.heap.size ≤ e'.w.heap.size
  still : Still e.w e'.w
  heap : ∀ b, b < e.w.heap.size → e'.w.heap[b]? = e.w.heap[b]?
  G : ∀ b, b < e.w.heap.size → e'.G b = e.G b
  fresh : ∀ b, e'.w.heap.size ≤ b → e'.G b = 0
theorem Ext.refl {e : Env} (h : EnvOK e) : Ext e e := ⟨rfl, fun _ _ => rfl, Nat.le_refl _, .refl _, fun _ _ => rfl, fun _ _ => rfl, h.fresh⟩
theorem Ext.trans {a b c : Env} (h : Ext a b) (k : Ext b c) : Ext a c :=
  ⟨k.H.trans h.H, fun i hi => (k.μ i (by rw [h.H]; exact hi)).trans (h.μ i hi), Nat.le_trans h.size k.size, h.still.trans k.still,
   fun bl hb => (k.heap bl (Nat.lt_of_lt_of_le hb h.size)).trans (h.heap bl hb),
   fun bl hb => (k.G bl (Nat.lt_of_lt_of_le hb h.size)).trans (h.G bl hb), k.fresh⟩
theorem G_lt {e : Env} (hf : ∀ b, e.w.heap.size ≤ b → e.G b = 0) {b off : Nat} (h : off < e.G b) : b < e.w.heap.size := by
  rcases Nat.lt_or_ge b e.w.heap.size with k | k
  · exact k
  · rw [hf b k] at h; omega
theorem cell?_of_heap {w w' : World} {b off : Nat} (h : w'.heap[b]? = w.heap[b]?) : w'.cell? ⟨b, off, none⟩ = w.cell? ⟨b, off, none⟩ := by
  unfold World.cell?; simp only [h]
theorem Ext.le {e e' : Env} (ok : EnvOK e) (h : Ext e e') : e.Le e' := by
  refine ⟨by rw [h.H]; exact Nat.le_refl _, fun i hi ht => ⟨by unfold Env.T at ht ⊢; rw [h.H]; exact ht, fun _ hb => (h.μ i hi).trans hb⟩, fun b off ho => ?_, fun i n ht => ?_⟩
  · have hb := G_lt ok.fresh ho
    exact ⟨by rw [h.G b hb]; exact ho, cell?_of_heap (h.heap b hb)⟩
  · have hi : i < e.H.length := by
      rcases Nat.lt_or_ge i e.H.length with k | k
      · exact k
      · unfold Env.T at ht; rw [List.getElem?_eq_none k] at ht; simp [tokOf] at ht
    refine ⟨n, by unfold Env.T at ht ⊢; rw [h.H]; exact ht, Nat.le_refl _, fun _ => ⟨h.μ i hi, fun b cs t hm hh => ?_⟩⟩
    have hb := ok.live i b hi hm
    exact ⟨h.G b hb, cs, (h.heap b hb).trans hh, rfl⟩
theorem lt_of_heap {w : World} {b : Nat} {o : Obj} (h : w.heap[b]? = some o) : b < w.heap.size := (Array.getElem?_eq_some_iff.1 h).1
theorem lt_of_get? {α : Type} {l : List α} {i : Nat} {a : α} (h : l[i]? = some a) : i < l.length := (List.getElem?_eq_some_iff.1 h).1
theorem ObjSim.ext {e e' : Env} (ok : EnvOK e) (h : Ext e e') {i : Nat} {o : AObj} (hi : i < e.H.length) (k : ObjSim e i o) : ObjSim e' i o := by
  cases o with
  | cells l =>
    obtain ⟨b, cs, t, h1, h2, h3, h4, h5⟩ := k
    have hb := lt_of_heap h3
    exact ⟨b, cs, t, (h.μ i hi).trans h1, (h.G b hb).trans h2, (h.heap b hb).trans h3, RepL.mono (h.le ok) l h4, h5⟩
  | tok n => trivial
  | map es =>
    obtain ⟨b, en, cl, h1, h2, h3⟩ := k
    exact ⟨b, en, cl, (h.μ i hi).trans h1, (h.heap b (lt_of_heap h2)).trans h2, h3⟩
  | tcells t l =>
    obtain ⟨b, cs, h1, h2, h3, h4, h5⟩ := k
    have hb := lt_of_heap h3
    exact ⟨b, cs, (h.μ i hi).trans h1, (h.G b hb).trans h2, (h.heap b hb).trans h3, RepL.mono (h.le ok) l h4, h5⟩
  | pre l =>
    obtain ⟨b, cs, t, m, h1, h2, h3, h4, h5⟩ := k
    have hb := lt_of_heap h3
    exact ⟨b, cs, t, m, (h.μ i hi).trans h1, (h.G b hb).trans h2, (h.heap b hb).trans h3, RepL.mono (h.le ok) _ h4, h5⟩
  | raw o =>
    obtain ⟨b, h1, h2, h3⟩ := k
    exact ⟨b, (h.μ i hi).trans h1, (h.heap b (lt_of_heap h2)).trans h2, (h.G b (lt_of_heap h2)).trans h3⟩
  | dead => trivial
theorem EnvOK.ext {e e' : Env} (ok : EnvOK e) (h : Ext e e') : EnvOK e' := by
  refine ⟨h.fresh, fun i o ho => ?_, fun i j b hi hj h1 h2 => ?_, fun i b hi h1 => ?_, ok.tabs.of h.size (fun b hb _ => h.heap b hb) fun i b hi h1 => .inr ?_⟩
  · rw [h.H] at ho; exact ObjSim.ext ok h (lt_of_get? ho) (ok.objs i o ho)
  · rw [h.H] at hi hj; exact ok.inj i j b hi hj ((h.μ i hi).symm.trans h1) ((h.μ j hj).symm.trans h2)
  · rw [h.H] at hi; exact Nat.lt_of_lt_of_le (ok.live i b hi ((h.μ i hi).symm.trans h1)) h.size
  · rw [h.H] at hi; exact ⟨i, hi, (h.μ i hi).symm.trans h1⟩
structure Fr (e e' : Env) : Prop where
  size : e.w.heap.size ≤ e'.w.heap.size
  still : Still e.w e'.w
  heap : ∀ b, b < e.w.heap.size → (∀ i, i < e.H.length → e.μ i ≠ some b) → e'.w.heap[b]? = e.w.heap[b]? ∧ e'.G b = e.G b
  objs : ∀ i b, i < e'.H.length → e'.μ i = some b → e.w.heap.size ≤ b ∨ ∃ j, j < e.H.length ∧ e.μ j = some b
  le : e.Le e'
theorem Fr.refl (e : Env) : Fr e e := ⟨Nat.le_refl _, .refl _, fun _ _ _ => ⟨rfl, rfl⟩, fun i _ hi hb => .inr ⟨i, hi, hb⟩, .refl e⟩
theorem Fr.ext {e e1 e2 : Env} (h : Fr e e1) (ok : EnvOK e1) (k : Ext e1 e2) : Fr e e2 :=
  ⟨Nat.le_trans h.size k.size, h.still.trans k.still, fun b hb hi => ⟨(k.heap b (Nat.lt_of_lt_of_le hb h.size)).trans (h.heap b hb hi).1, (k.G b (Nat.lt_of_lt_of_le hb h.size)).trans (h.heap b hb hi).2⟩,
   fun i b hi hb => by rw [k.H] at hi; exact h.objs i b hi ((k.μ i hi).symm.trans hb), h.le.trans (k.le ok)⟩
theorem RepL.length {e : Env} : ∀ {l : List AV} {vs : List Value}, RepL e l vs → vs.length = l.length
  | [], _, h => by rw [RepL] at h; simp [h]
  | _ :: l, _, h => by rw [RepL] at h; obtain ⟨v, rest, rfl, _, h3⟩ := h; simp [RepL.length h3]
theorem RepL.get {e : Env} : ∀ {l : List AV} {vs : List Value} (i : Nat) (a : AV), RepL e l vs → l[i]? = some a → ∃ v, vs[i]? = some v ∧ Rep e a v
  | [], _, _, _, _, h => by simp at h
  | x :: l, _, 0, a, h, ha => by
    rw [RepL] at h; obtain ⟨v, rest, rfl, h2, h3⟩ := h; simp at ha; subst ha; exact ⟨v, rfl, h2⟩
  | x :: l, _, i + 1, a, h, ha => by
    rw [RepL] at h; obtain ⟨v, rest, rfl, h2, h3⟩ := h; simp at ha; simpa using RepL.get i a h3 ha
theorem RepL.nil {e : Env} : RepL e [] [] := by rw [RepL]
theorem RepL.cons {e : Env} {a : AV} {l : List AV} {v : Value} {vs : List Value} (h : Rep e a v) (k : RepL e l vs) : RepL e (a :: l) (v :: vs) := by rw [RepL]; exact ⟨v, vs, rfl, h, k⟩
theorem RepL.append {e : Env} : ∀ {l l' : List AV} {vs vs' : List Value}, RepL e l vs → RepL e l' vs' → RepL e (l ++ l') (vs ++ vs')
  | [], _, _, _, h, k => by rw [RepL] at h; subst h; exact k
  | a :: l, _, _, _, h, k => by
    rw [RepL] at h; obtain ⟨v, rest, rfl, h2, h3⟩ := h
    exact RepL.cons h2 (RepL.append h3 k)
theorem RepL.take {e : Env} : ∀ {l : List AV} {vs : List Value} (n : Nat), RepL e l vs → RepL e (l.take n) (vs.take n)
  | [], _, n, h => by rw [RepL] at h; subst h; simp; exact RepL.nil
  | a :: l, _, 0, h => by simp; exact RepL.nil
  | a :: l, _, n + 1, h => by
    rw [RepL] at h; obtain ⟨v, rest, rfl, h2, h3⟩ := h
    exact RepL.cons h2 (RepL.take n h3)
theorem RepL.drop {e : Env} : ∀ {l : List AV} {vs : List Value} (n : Nat), RepL e l vs → RepL e (l.drop n) (vs.drop n)
  | [], _, n, h => by rw [RepL] at h; subst h; simp; exact RepL.nil
  | a :: l, _, 0, h => by simpa using h
  | a :: l, _, n + 1, h => by
    rw [RepL] at h; obtain ⟨v, rest, rfl, h2, h3⟩ := h
    simpa using RepL.drop n h3
theorem RepL.set {e : Env} : ∀ {l : List AV} {vs : List Value} (n : Nat) {a : AV} {v : Value}, RepL e l vs → Rep e a v → RepL e (l.set n a) (vs.set n v)
  | [], _, n, _, _, h, _ => by rw [RepL] at h; subst h; simp; exact RepL.nil
  | x :: l, _, 0, _, _, h, k => by
    rw [RepL] at h; obtain ⟨v, rest, rfl, h2, h3⟩ := h
    exact RepL.cons k h3
  | x :: l, _, n + 1, _, _, h, k => by
    rw [RepL] at h; obtain ⟨v, rest, rfl, h2, h3⟩ := h
    exact RepL.cons h2 (RepL.set n h3 k)
theorem RepL.raws {e : Env} : ∀ (vs : List Value), RepL e (vs.map AV.raw) vs
  | [] => RepL.nil
  | v :: vs => RepL.cons (by rw [Rep]) (RepL.raws vs)
theorem CellsAt.get {e : Env} : ∀ {l : List AV} {b off : Nat} (i : Nat) (a : AV), CellsAt e l b off → l[i]? = some a →
    off + i < e.G b ∧ ∃ v, e.w.cell? ⟨b, off + i, none⟩ = some v ∧ Rep e a v ∧ isCell v = true
  | [], _, _, _, _, _, h => by simp at h
  | x :: l, b, off, 0, a, h, ha => by
    rw [CellsAt] at h; simp at ha; subst ha; exact h.1
  | x :: l, b, off, i + 1, a, h, ha => by
    rw [CellsAt] at h; simp at ha
    have := CellsAt.get i a h.2 ha
    rwa [show off + 1 + i = off + (i + 1) by omega] at this
theorem CellsAt.drop {e : Env} : ∀ {l : List AV} {b off : Nat} (n : Nat), CellsAt e l b off → CellsAt e (l.drop n) b (off + n)
  | [], _, _, n, _ => by simp; rw [CellsAt]; trivial
  | x :: l, b, off, 0, h => by simpa using h
  | x :: l, b, off, n + 1, h => by
    rw [CellsAt] at h
    have := CellsAt.drop n h.2
    rw [show off + 1 + n = off + (n + 1) by omega] at this
    simpa using this
theorem CellsAt.take {e : Env} : ∀ {l : List AV} {b off : Nat} (n : Nat), CellsAt e l b off → CellsAt e (l.take n) b off
  | [], _, _, n, _ => by simp; rw [CellsAt]; trivial
  | x :: l, b, off, 0, h => by simp; rw [CellsAt]; trivial
  | x :: l, b, off, n + 1, h => by
    rw [CellsAt] at h; simp only [List.take_succ_cons]; rw [CellsAt]; exact ⟨h.1, CellsAt.take n h.2⟩
theorem CellsAt.append {e : Env} : ∀ {l l' : List AV} {b off : Nat}, CellsAt e l b off → CellsAt e l' b (off + l.length) → CellsAt e (l ++ l') b off
  | [], _, _, _, _, k => by simpa using k
  | x :: l, l', b, off, h, k => by
    rw [CellsAt] at h; simp only [List.cons_append]; rw [CellsAt]
    refine ⟨h.1, CellsAt.append h.2 ?_⟩
    rwa [List.length_cons, show off + (l.length + 1) = off + 1 + l.length by omega] at k
theorem ElemsAt.get {e : Env} {sz : Nat} : ∀ {es : List (List AV)} {b off : Nat} (i : Nat) (c : List AV), ElemsAt e es b off → (∀ c ∈ es, c.length = sz) → es[i]? = some c → CellsAt e c b (off + i * sz)
  | [], _, _, _, _, _, _, h => by simp at h
  | x :: es, b, off, 0, c, h, _, hc => by rw [ElemsAt] at h; simp at hc; subst hc; simpa using h.1
  | x :: es, b, off, i + 1, c, h, hs, hc => by
    rw [ElemsAt] at h; simp at hc
    have := ElemsAt.get i c h.2 (fun d hd => hs d (List.mem_cons_of_mem _ hd)) hc
    rw [hs x (by simp)] at this
    rwa [show off + sz + i * sz = off + (i + 1) * sz by rw [Nat.add_mul]; omega] at this
theorem ElemsAt.drop {e : Env} {sz : Nat} : ∀ {es : List (List AV)} {b off : Nat} (n : Nat), ElemsAt e es b off → (∀ c ∈ es, c.length = sz) → n ≤ es.length → ElemsAt e (es.drop n) b (off + n * sz)
  | [], _, _, n, _, _, hn => by simp; rw [ElemsAt]; trivial
  | x :: es, b, off, 0, h, _, _ => by simpa using h
  | x :: es, b, off, n + 1, h, hs, hn => by
    rw [ElemsAt] at h
    have := ElemsAt.drop n h.2 (fun d hd => hs d (List.mem_cons_of_mem _ hd)) (by simpa using hn)
    rw [hs x (by simp)] at this
    rw [show off + sz + n * sz = off + (n + 1) * sz by rw [Nat.add_mul]; omega] at this
    simpa using this
theorem ElemsAt.take {e : Env} : ∀ {es : List (List AV)} {b off : Nat} (n : Nat), ElemsAt e es b off → ElemsAt e (es.take n) b off
  | [], _, _, n, _ => by simp; rw [ElemsAt]; trivial
  | x :: es, b, off, 0, h => by simp; rw [ElemsAt]; trivial
  | x :: es, b, off, n + 1, h => by
    rw [ElemsAt] at h; simp only [List.take_succ_cons]; rw [ElemsAt]; exact ⟨h.1, ElemsAt.take n h.2⟩
theorem ElemsAt.append {e : Env} {sz : Nat} : ∀ {es es' : List (List AV)} {b off : Nat}, ElemsAt e es b off → (∀ c ∈ es, c.length = sz) → ElemsAt e es' b (off + es.length * sz) → ElemsAt e (es ++ es') b off
  | [], _, _, _, _, _, k => by simpa using k
  | x :: es, es', b, off, h, hs, k => by
    rw [ElemsAt] at h; simp only [List.cons_append]; rw [ElemsAt]
    refine ⟨h.1, ElemsAt.append h.2 (fun d hd => hs d (List.mem_cons_of_mem _ hd)) ?_⟩
    rw [hs x (by simp)]
    rwa [List.length_cons, show off + (es.length + 1) * sz = off + sz + es.length * sz by rw [Nat.add_mul]; omega] at k
theorem ElemsAt.flat {e : Env} : ∀ {es : List (List AV)} {b off : Nat}, ElemsAt e es b off ↔ CellsAt e es.flatten b off
  | [], _, _ => by simp [ElemsAt, CellsAt]
  | c :: es, b, off => by
    rw [ElemsAt, ElemsAt.flat (es := es), List.flatten_cons]
    constructor
    · exact fun ⟨h, k⟩ => CellsAt.append h k
    · intro h
      refine ⟨?_, ?_⟩
      · have := CellsAt.take c.length h; simpa using this
      · have := CellsAt.drop c.length h; simpa using this
theorem CellsAt.of_values {e : Env} {b : Nat} {cs : Array Value} {t : TypeId} {fr : Nat × Nat} (hh : e.w.heap[b]? = some (.cells cs t fr)) :
    ∀ {l : List AV} {vs : List Value} {off : Nat}, RepL e l vs → (∀ v ∈ vs, isCell v = true) → (∀ j v, vs[j]? = some v → cs[off + j]? = some v) → off + vs.length ≤ e.G b → CellsAt e l b off
  | [], _, _, _, _, _, _ => by rw [CellsAt]; trivial
  | a :: l, _, off, h, hc, hv, hg => by
    rw [RepL] at h; obtain ⟨v, rest, rfl, h2, h3⟩ := h
    rw [CellsAt]
    refine ⟨⟨by simp at hg; omega, v, ?_, h2, hc v (by simp)⟩, CellsAt.of_values hh h3 (fun u hu => hc u (List.mem_cons_of_mem _ hu)) (fun j u hj => ?_) (by simp at hg; omega)⟩
    · have := hv 0 v rfl
      unfold World.cell?; simp only [hh]; simpa using this
    · have := hv (j + 1) u (by simpa using hj)
      rwa [show off + (j + 1) = off + 1 + j by omega] at this
inductive ADef where
  | call (f : Fn) (args cap : List AV)
  | mark (i : Nat)
  deriving Inhabited
def DRep (e : Env) : ADef → Deferred → Prop
  | .call f as cs, d => ∃ av cv : Array Value, d = { target := .fn f cv, args := av } ∧ RepL e as av.toList ∧ RepL e cs cv.toList
  | .mark i, d => i < e.H.length ∧ e.T i = none ∧ ∃ b, e.μ i = some b ∧ d = { target := .collected b, args := #[] }
def DRepL (e : Env) : List ADef → List Deferred → Prop
  | [], ds => ds = []
  | a :: l, ds => ∃ d rest, ds = d :: rest ∧ DRep e a d ∧ DRepL e l rest
theorem DRepL.nil {e : Env} : DRepL e [] [] := rfl
theorem DRepL.cons {e : Env} {a : ADef} {l : List ADef} {d : Deferred} {ds : List Deferred} (h : DRep e a d) (k : DRepL e l ds) : DRepL e (a :: l) (d :: ds) := ⟨d, ds, rfl, h, k⟩
theorem DRepL.of_nil {e : Env} {l : List ADef} {ds : List Deferred} (h : DRepL e l ds) (hl : l = []) : ds = [] := by subst hl; exact h
theorem DRep.mono {e e' : Env} (h : e.Le e') : ∀ (a : ADef) {d : Deferred}, DRep e a d → DRep e' a d
  | .call _ as cs, _, k => by
    obtain ⟨av, cv, k1, k2, k3⟩ := k; exact ⟨av, cv, k1, RepL.mono h as k2, RepL.mono h cs k3⟩
  | .mark i, _, k => by
    obtain ⟨k1, k2, b, k3, k4⟩ := k
    obtain ⟨o1, o2⟩ := h.obj i k1 k2
    exact ⟨Nat.lt_of_lt_of_le k1 h.len, o1, b, o2 b k3, k4⟩
theorem DRepL.mono {e e' : Env} (h : e.Le e') : ∀ {l : List ADef} {ds : List Deferred}, DRepL e l ds → DRepL e' l ds
  | [], _, k => k
  | a :: _, _, k => by
    obtain ⟨d, rest, k1, k2, k3⟩ := k; exact ⟨d, rest, k1, DRep.mono h a k2, DRepL.mono h k3⟩
end Go.Ab
namespace Go.Ab
variable [Tabs]
def FW (r : Option Nat) : Fence := { fn := fun _ => True, depth := none, alive := false, round := r }
def sget : List (Nat × AV) → Nat → AV
  | [], _ => .any
  | (u, a) :: l, t => bif u == t then a else sget l t
structure St where
  sl : List (Nat × AV)
  H : List AObj
  df : List ADef
def St.put (s : St) (d : Option Tmp) (a : AV) : St :=
  match d with
  | some t => { s with sl := (t, a) :: s.sl }
  | none => s
def ofV : Value → AV
  | .agg cs => bif cs.toList.all isCell then .agg (cs.toList.map .raw) else .raw (.agg cs)
  | v => .raw v
def St.op (s : St) : Operand → AV
  | .tmp t => sget s.sl t
  | .const v => ofV v
  | .global g => .raw (.pointer (some ⟨g, 0, none⟩))
  | .func f => .fn (.func f) [] []
structure Ctx where
  P : Program
  r : Option Nat
  nt : Nat
  e0 : Env
structure Sim (c : Ctx) (s : St) (e : Env) (a : Act) : Prop where
  size : a.tmps.size = c.nt
  slots : ∀ t, Rep e (sget s.sl t) (a.tmps.getD t undef)
  defers : DRepL e s.df a.defers
  H : e.H = s.H
  ok : EnvOK e
  fr : Fr c.e0 e
inductive AExit where
  | normal
  | exit (id : Nat)
  | goto (l : Nat)
  | ret
  | panic (v : AV)
def exRep (e : Env) : AExit → Exit → Prop
  | .normal, x => x = .normal
  | .exit id, x => x = .exit id
  | .goto l, x => x = .goto l
  | .ret, x => x = .ret
  | .panic v, x => ∃ u, x = .panic [{ v := u, recovered := false }] ∧ Rep e v u
def lift (c : Ctx) (Q : AExit → St → Prop) (x : Exit) (a : Act) (w : World) : Prop :=
  ∃ ax s e, Q ax s ∧ e.w = w ∧ Sim c s e a ∧ exRep e ax x
def AWP (c : Ctx) (code : Code) (Q : AExit → St → Prop) (s : St) : Prop :=
  ∀ e a, Sim c s e a → code.wpIn (FW c.r) 0 c.P (lift c Q) a e.w
variable {c : Ctx} {Q : AExit → St → Prop} {s : St}
theorem ofV_rep (e : Env) (v : Value) : Rep e (ofV v) v := by
  cases v with
  | agg cs =>
    show Rep e (bif cs.toList.all isCell then .agg (cs.toList.map .raw) else .raw (.agg cs)) (.agg cs)
    cases h : cs.toList.all isCell with
    | true =>
      show Rep e (.agg (cs.toList.map .raw)) (.agg cs)
      rw [Rep]
      exact ⟨cs, rfl, RepL.raws _, List.all_eq_true.1 h⟩
    | false => show Rep e (.raw (.agg cs)) (.agg cs); rw [Rep]
  | _ => simp only [ofV]; rw [Rep]
theorem Sim.op {e : Env} {a : Act} (h : Sim c s e a) (x : Operand) : Rep e (s.op x) (a.eval x) := by
  cases x with
  | tmp t => exact h.slots t
  | const v => exact ofV_rep e v
  | global g => simp only [St.op]; rw [Rep]; rfl
  | func f => simp only [St.op]; rw [Rep]; exact ⟨#[], #[], rfl, RepL.nil, RepL.nil⟩
theorem lift_mono {Q' : AExit → St → Prop} (h : ∀ x s, Q x s → Q' x s) {x : Exit} {a : Act} {w : World} (k : lift c Q x a w) : lift c Q' x a w := by
  obtain ⟨ax, s, e, h1, h2⟩ := k; exact ⟨ax, s, e, h _ _ h1, h2⟩
theorem AWP.mono {code : Code} {Q' : AExit → St → Prop} (k : AWP c code Q s) (h : ∀ x s, Q x s → Q' x s) : AWP c code Q' s :=
  fun e a hs => wpIn_mono (k e a hs) fun _ _ _ q => lift_mono h q
def AExit.then (K : St → Prop) (Q : AExit → St → Prop) : AExit → St → Prop
  | .normal, s => K s
  | x, s => Q x s
def AExit.inBlock (id : Nat) (Q : AExit → St → Prop) : AExit → St → Prop
  | .exit j, s => bif Nat.beq j id then Q .normal s else Q (.exit j) s
  | x, s => Q x s
theorem aw_skip (h : Q .normal s) : AWP c .skip Q s := fun e _ hs => wpIn_skip ⟨.normal, s, e, h, rfl, hs, rfl⟩
theorem aw_label {l : Nat} (h : Q .normal s) : AWP c (.label l) Q s := fun e _ hs => wpIn_label ⟨.normal, s, e, h, rfl, hs, rfl⟩
theorem aw_exit {id : Nat} (h : Q (.exit id) s) : AWP c (.exit id) Q s := fun e _ hs => wpIn_exit ⟨.exit id, s, e, h, rfl, hs, rfl⟩
theorem aw_ret (h : Q .ret s) : AWP c .ret Q s := fun e _ hs => wpIn_ret ⟨.ret, s, e, h, rfl, hs, rfl⟩
theorem aw_seq {x y : Code} (h : AWP c x (AExit.then (AWP c y Q) Q) s) : AWP c (.seq x y) Q s := by
  intro e a hs
  refine wpIn_seq (wpIn_mono (h e a hs) ?_)
  rintro ex a' w ⟨ax, s', e', hq, rfl, hs', hx⟩
  cases ax with
  | normal => obtain rfl : ex = .normal := hx; exact hq e' a' hs'
  | exit id => obtain rfl : ex = .exit id := hx; exact ⟨.exit id, s', e', hq, rfl, hs', rfl⟩
  | goto l => obtain rfl : ex = .goto l := hx; exact ⟨.goto l, s', e', hq, rfl, hs', rfl⟩
  | ret => obtain rfl : ex = .ret := hx; exact ⟨.ret, s', e', hq, rfl, hs', rfl⟩
  | panic v => obtain ⟨u, rfl, hu⟩ := hx; exact ⟨.panic v, s', e', hq, rfl, hs', u, rfl, hu⟩
theorem aw_block {id : Nat} {x : Code} (h : AWP c x (AExit.inBlock id Q) s) : AWP c (.block id x) Q s := by
  intro e a hs
  refine wpIn_block (wpIn_mono (h e a hs) ?_)
  rintro ex a' w ⟨ax, s', e', hq, rfl, hs', hx⟩
  cases ax with
  | normal => obtain rfl : ex = .normal := hx; exact ⟨.normal, s', e', hq, rfl, hs', rfl⟩
  | exit j =>
    obtain rfl : ex = .exit j := hx
    simp only [AExit.inBlock] at hq
    simp only [Exit.inBlock]
    by_cases hj : j = id
    · subst hj; rw [if_pos rfl]; exact ⟨.normal, s', e', by simpa using hq, rfl, hs', rfl⟩
    · rw [if_neg hj]; exact ⟨.exit j, s', e', by
        have : Nat.beq j id = false := by
          cases hb : Nat.beq j id with
          | false => rfl
          | true => exact absurd (Nat.eq_of_beq_eq_true hb) hj
        rw [this] at hq; exact hq, rfl, hs', rfl⟩
  | goto l => obtain rfl : ex = .goto l := hx; exact ⟨.goto l, s', e', hq, rfl, hs', rfl⟩
  | ret => obtain rfl : ex = .ret := hx; exact ⟨.ret, s', e', hq, rfl, hs', rfl⟩
  | panic v => obtain ⟨u, rfl, hu⟩ := hx; exact ⟨.panic v, s', e', hq, rfl, hs', u, rfl, hu⟩
def Less (a b : AV) : Prop := ∀ e v, Rep e a v → Rep e b v
theorem Less.rfl' (a : AV) : Less a a := fun _ _ h => h
theorem Less.any (a : AV) : Less a .any := fun _ _ _ => by rw [Rep]; trivial
theorem Less.eq {a b : AV} (h : a = b) : Less a b := h ▸ Less.rfl' a
theorem less_b {b b' : Bool} (h : b = b') : Less (.raw (.bool b)) (.raw (.bool b')) := h ▸ Less.rfl' _
theorem less_int {k : IntKind} {n m : Int} (h : n = m) : Less (.raw (.int k n)) (.raw (.int k m)) := h ▸ Less.rfl' _
theorem aw_cond {x : Operand} {y z : Code} {b : Bool} (hb : Less (s.op x) (.raw (.bool b))) (h1 : b = true → AWP c y Q s) (h2 : b = false → AWP c z Q s) : AWP c (.cond x y z) Q s := by
  intro e a hs
  have := hb e _ (hs.op x)
  rw [Rep] at this
  exact wpIn_cond_split this (fun h => h1 h e a hs) (fun h => h2 h e a hs)
theorem aw_true {x : Operand} {y z : Code} (hb : Less (s.op x) (.raw (.bool true))) (h1 : AWP c y Q s) : AWP c (.cond x y z) Q s :=
  aw_cond hb (fun _ => h1) (fun h => by cases h)
theorem aw_false {x : Operand} {y z : Code} (hb : Less (s.op x) (.raw (.bool false))) (h1 : AWP c z Q s) : AWP c (.cond x y z) Q s :=
  aw_cond hb (fun h => by cases h) (fun _ => h1)
theorem get_less {sl sl' : List (Nat × AV)} (h : ∀ p ∈ sl', Less (sget sl p.1) p.2) : ∀ t, Less (sget sl t) (sget sl' t) := by
  intro t
  induction sl' with
  | nil => exact Less.any _
  | cons p l ih =>
    obtain ⟨u, a⟩ := p
    simp only [sget]
    cases hu : u == t with
    | true => have : u = t := by simpa using hu
              subst this; exact h (u, a) (by simp)
    | false => exact ih fun q hq => h q (List.mem_cons_of_mem _ hq)
def LessS (sl : List (Nat × AV)) : List (Nat × AV) → Prop
  | [] => True
  | (t, a) :: l => Less (sget sl t) a ∧ LessS sl l
theorem LessS.all {sl : List (Nat × AV)} : ∀ {l : List (Nat × AV)}, LessS sl l → ∀ p ∈ l, Less (sget sl p.1) p.2
  | [], _, p, hp => by cases hp
  | (t, a) :: l, h, p, hp => by
    rcases List.mem_cons.1 hp with e | e
    · subst e; exact h.1
    · exact LessS.all h.2 p e
def Sub (c : Ctx) (s s' : St) : Prop := ∀ e a, Sim c s e a → ∃ e', e'.w = e.w ∧ Sim c s' e' a
theorem Sub.refl (s : St) : Sub c s s := fun e _ h => ⟨e, rfl, h⟩
theorem Sub.less {sl' : List (Nat × AV)} (h : ∀ p ∈ sl', Less (sget s.sl p.1) p.2) : Sub c s { s with sl := sl' } :=
  fun e _ hs => ⟨e, rfl, hs.size, fun t => get_less h t _ _ (hs.slots t), hs.defers, hs.H, hs.ok, hs.fr⟩
theorem Sub.trans {s1 s2 s3 : St} (h : Sub c s1 s2) (k : Sub c s2 s3) : Sub c s1 s3 := fun e a hs =>
  let ⟨e1, hw, hs1⟩ := h e a hs
  let ⟨e2, hw2, hs2⟩ := k e1 a hs1
  ⟨e2, hw2.trans hw, hs2⟩
theorem aw_sub {code : Code} {s' : St} (h : Sub c s s') (k : AWP c code Q s') : AWP c code Q s := by
  intro e a hs
  obtain ⟨e', hw, hs'⟩ := h e a hs
  rw [← hw]; exact k e' a hs'
theorem Sub.slots {sl' : List (Nat × AV)} (h : LessS s.sl sl') : Sub c s { s with sl := sl' } := Sub.less h.all
theorem aw_loop {ι : Type} (S : ι → St) (m : ι → Nat) (i0 : ι) (h0 : Sub c s (S i0)) {body : Code}
    (hb : ∀ i, AWP c body (AExit.then (fun s' => ∃ j, m j < m i ∧ Sub c s' (S j)) Q) (S i)) : AWP c (.loop body) Q s := by
  refine aw_sub h0 ?_
  intro e a hs b k cs hro hb' hr
  have key : ∀ n i, m i = n → ∀ e a, Sim c (S i) e a → ∃ ex a' w', lift c Q ex a' w' ∧
      ArrivesIn (Machine.fenced c.P (FW c.r)) c.P (lone (b.atR a (.code body :: .inLoop body :: k)) cs e.w) b k cs ex a' w' := by
    intro n
    induction n using Nat.strongRecOn with
    | _ n ih =>
      intro i hi e a hs
      obtain ⟨ex, a1, w1, ⟨ax, s1, e1, hq1, rfl, hs1, hx⟩, harr⟩ := hb i e a hs b (.inLoop body :: k) cs hro hb' hr
      cases ax with
      | normal =>
        obtain rfl : ex = .normal := hx
        obtain ⟨j, hlt, hsub⟩ := hq1
        obtain ⟨e2, hw2, hs2⟩ := hsub e1 a1 hs1
        obtain ⟨ex2, a2, w2, hq2, harr2⟩ := ih (m j) (hi ▸ hlt) j rfl e2 a1 hs2
        rw [hw2] at harr2
        exact ⟨ex2, a2, w2, hq2, .of_steps (StepsIn.trans harr (.one (fenced_calm hb' hr rfl) stepR_inLoop)) harr2⟩
      | exit id => obtain rfl : ex = .exit id := hx
                   exact ⟨_, a1, e1.w, ⟨.exit id, s1, e1, hq1, rfl, hs1, rfl⟩, .pass (x := .inLoop body) rfl (fun _ _ => .inl (by simp)) harr⟩
      | goto l => obtain rfl : ex = .goto l := hx
                  exact ⟨_, a1, e1.w, ⟨.goto l, s1, e1, hq1, rfl, hs1, rfl⟩, .pass (x := .inLoop body) rfl (fun _ _ => .inl (by simp)) harr⟩
      | ret => obtain rfl : ex = .ret := hx
               exact ⟨_, a1, e1.w, ⟨.ret, s1, e1, hq1, rfl, hs1, rfl⟩, .pass (x := .inLoop body) rfl (fun _ _ => .inl (by simp)) harr⟩
      | panic v => obtain ⟨u, rfl, hu⟩ := hx
                   exact ⟨_, a1, e1.w, ⟨.panic v, s1, e1, hq1, rfl, hs1, u, rfl, hu⟩, .pass (x := .inLoop body) rfl (fun _ _ => .inl (by simp)) harr⟩
  obtain ⟨ex, a', w', hq, harr⟩ := key _ i0 rfl e a hs
  exact ⟨ex, a', w', hq, .of_steps (.one (fenced_calm hb' hr rfl) stepR_loop) harr⟩
def keepS (sl : List (Nat × AV)) (ks : List Nat) : List (Nat × AV) := ks.map fun t => (t, sget sl t)
theorem aw_loopk {ι : Type} (ks : List Nat) (V : ι → List (Nat × AV)) (Hf : List AObj → ι → List AObj) (m : ι → Nat) (i0 : ι) (h0 : LessS s.sl (V i0 ++ keepS s.sl ks)) (hH : Hf s.H i0 = s.H) {body : Code}
    (hb : ∀ i, AWP c body (AExit.then (fun s' => ∃ j, m j < m i ∧ Sub c s' ⟨V j ++ keepS s.sl ks, Hf s.H j, s.df⟩) Q) ⟨V i ++ keepS s.sl ks, Hf s.H i, s.df⟩) : AWP c (.loop body) Q s :=
  aw_loop (fun i => ⟨V i ++ keepS s.sl ks, Hf s.H i, s.df⟩) m i0 (by rw [hH]; exact Sub.slots h0) hb
end Go.Ab
namespace Go.Ab
variable [Tabs]
def dOK (nt : Nat) : Option Tmp → Bool
  | some t => Nat.blt t nt
  | none => true
theorem Act.put_rep {e : Env} {sl : List (Nat × AV)} {a : Act} {v : AV} {u : Value} (h : ∀ t, Rep e (sget sl t) (a.tmps.getD t undef)) (hv : Rep e v u) (d : Tmp) (hd : d < a.tmps.size) :
    ∀ t, Rep e (sget ((d, v) :: sl) t) ((a.tmps.setIfInBounds d u).getD t undef) := by
  intro t
  simp only [sget]
  cases hb : d == t with
  | true =>
    have e1 : d = t := by simpa using hb
    subst e1
    have e2 : (a.tmps.setIfInBounds d u).getD d undef = u := by simp [Array.getD, hd]
    rw [e2]; exact hv
  | false =>
    have e1 : d ≠ t := fun x => by subst x; simp at hb
    have e2 : (a.tmps.setIfInBounds d u).getD t undef = a.tmps.getD t undef := by
      simp only [Array.getD_eq_getD_getElem?]
      rw [Array.getElem?_setIfInBounds_ne e1]
    rw [e2]; exact h t
theorem Sim.put {c : Ctx} {s : St} {e : Env} {a : Act} (h : Sim c s e a) {d : Option Tmp} (hd : dOK c.nt d = true) {v : AV} {u : Value} (hv : Rep e v u) :
    Sim c (s.put d v) e (a.put d u) := by
  cases d with
  | none => exact h
  | some t =>
    have ht : t < a.tmps.size := by rw [h.size]; simpa [dOK, Nat.blt_eq] using hd
    exact ⟨by simp [Act.put, h.size], Act.put_rep h.slots hv t ht, h.defers, h.H, h.ok, h.fr⟩
theorem Sim.ext {c : Ctx} {s : St} {e e' : Env} {a : Act} (h : Sim c s e a) (k : Ext e e') : Sim c s e' a :=
  ⟨h.size, fun t => Rep.mono (k.le h.ok) _ (h.slots t), h.defers.mono (k.le h.ok), k.H.trans h.H, h.ok.ext k, h.fr.ext h.ok k⟩
def HSub (H H' : List AObj) : Prop := ∀ (i : Nat) (o : AObj), H[i]? = some o → (∀ n, o ≠ AObj.tok n) → H'[i]? = some o
theorem HSub.refl (H : List AObj) : HSub H H := fun _ _ h _ => h
theorem HSub.trans {a b c : List AObj} (h : HSub a b) (k : HSub b c) : HSub a c := fun i o ho hn => k i o (h i o ho hn) hn
theorem HSub.append {a b : List AObj} (h : HSub a b) (l : List AObj) : HSub a (b ++ l) := fun i o ho hn => by
  have := h i o ho hn
  rw [List.getElem?_append_left (lt_of_get? this)]; exact this
theorem HSub.of_prefix {a b : List AObj} (h : a <+: b) : HSub a b := by
  obtain ⟨t, rfl⟩ := h; exact (HSub.refl a).append t
theorem pre_get {H H' : List AObj} (h : HSub H H') {i : Nat} {l : List AV} (k : H[i]? = some (.cells l)) : H'[i]? = some (.cells l) := h i _ k (fun n e => by cases e)
/-- **A quiet operation**: whatever the memory, it hands back a value that v stands for, and lays new blocks at most. -/
def Ev (P : Program) (r : Option Nat) (o : Oper) (H : List AObj) (ρ : Operand → AV) (v : AV) : Prop :=
  ∀ e a next Q', EnvOK e → HSub H e.H → (∀ x ∈ o.op.operands.toList, Rep e (ρ x) (a.eval x)) →
    (∀ u e', Ext e e' → Rep e' v u → next (a.put o.dst u) e'.w) → o.wpIn (FW r) 0 P a e.w next Q'
def SeqWP (c : Ctx) (ops : Array Oper) (Q : AExit → St → Prop) (i : Nat) (l : List Oper) (s : St) : Prop :=
  ops.toList.drop i = l → ∀ e a, Sim c s e a → wpOpsIn (FW c.r) 0 c.P ops (lift c Q) (List.range' i l.length) a e.w
theorem aw_region {c : Ctx} {id : Nat} {l : List Oper} {Q : AExit → St → Prop} {s : St} (h : SeqWP c l.toArray Q 0 l s) : AWP c (.region id l.toArray false) Q s :=
  fun e a hs => wpIn_region (by have := h (by simp) e a hs; rwa [List.range_eq_range', List.size_toArray])
section seq
variable {c : Ctx} {ops : Array Oper} {Q : AExit → St → Prop} {rest : List Oper} {s : St} {i : Nat} {o : Oper}
variable {d : Option Tmp} {op : Op} {t : TypeId} {p : String} {af : Array Edge}
theorem drop_cons {α : Type} {l rest : List α} {i : Nat} {a : α} (h : l.drop i = a :: rest) : l[i]? = some a ∧ l.drop (i + 1) = rest := by
  refine ⟨?_, ?_⟩
  · have := congrArg (·[0]?) h
    simpa using this
  · have := congrArg (·.drop 1) h
    simpa [List.drop_drop, Nat.add_comm] using this
theorem sq_nil (h : Q .normal s) : SeqWP c ops Q i [] s := fun _ e _ hs => ⟨.normal, s, e, h, rfl, hs, rfl⟩
theorem sq_op (h : ∀ e a, Sim c s e a → ∀ next : Act → World → Prop, (∀ s' e' a', SeqWP c ops Q (i + 1) rest s' → Sim c s' e' a' → next a' e'.w) → Oper.wpIn (FW c.r) 0 c.P ⟨d, op, t, p, af, none⟩ a e.w next (lift c Q)) :
    SeqWP c ops Q i (⟨d, op, t, p, af, none⟩ :: rest) s := by
  intro hd e a hs
  obtain ⟨ho, hr⟩ := drop_cons hd
  have ho : ops[i]? = some ⟨d, op, t, p, af, none⟩ := by simpa using ho
  simp only [List.length_cons, List.range'_succ, wpOpsIn, ho, Region.wanted, if_true]
  exact h e a hs _ (fun s' e' a' k hs' => k hr e' a' hs')
theorem sq_ev {v : AV} (hd : dOK c.nt d = true) (hv : Ev c.P c.r ⟨d, op, t, p, af, none⟩ s.H s.op v) (k : SeqWP c ops Q (i + 1) rest (s.put d v)) : SeqWP c ops Q i (⟨d, op, t, p, af, none⟩ :: rest) s :=
  sq_op fun e a hs _ hn => hv e a _ _ hs.ok (hs.H ▸ HSub.refl _) (fun x _ => hs.op x) (fun _ e' hx hu => hn _ e' _ k ((hs.ext hx).put hd hu))
def gslot (ops : Array Oper) (j : Nat) : Option Tmp := (ops[j]?).bind (·.dst)
def boolIs : Value → Bool → Bool
  | .bool b, w => b == w
  | _, _ => false
theorem yielded_is {e : Env} {a : Act} {j t : Nat} {v : Value} (hj : gslot ops j = some t) (ht : t < a.tmps.size) (h : Rep e (.raw v) (a.tmps.getD t undef)) (want : Bool) : (yielded ops a.tmps j == some want) = boolIs v want := by
  rw [Rep] at h
  unfold gslot at hj
  simp only [yielded, hj, Option.bind_some]
  have h2 : a.tmps[t]? = some v := by
    rw [← h]; simp [Array.getD, ht]
  rw [h2]
  cases v <;> first | rfl | (simp [boolIs])
theorem yielded_of {e : Env} {a : Act} {j t : Nat} {b : Bool} (hj : gslot ops j = some t) (ht : t < a.tmps.size) (h : Rep e (.raw (.bool b)) (a.tmps.getD t undef)) : yielded ops a.tmps j = some b := by
  have := yielded_is hj ht h b
  simpa [boolIs] using this
theorem about_FW (r : Option Nat) (o : Oper) (P : Program) (w : World) (ρ : Operand → Value) : ∀ f, o.about P w ρ = some f → (FW r).fn f := fun _ _ => trivial
theorem sq_split {l : List Oper} (u : Nat) {b : Bool} (_hb : Less (sget s.sl u) (.raw (.bool b))) (h1 : b = true → SeqWP c ops Q i l s) (h2 : b = false → SeqWP c ops Q i l s) : SeqWP c ops Q i l s := by
  cases b
  · exact h2 rfl
  · exact h1 rfl
theorem sq_yes {j u : Nat} {want : Bool} {v : AV} (hj : gslot ops j = some u) (ht : Nat.blt u c.nt = true)
    (hb : Less (sget s.sl u) (.raw (.bool want))) (hd : dOK c.nt d = true) (hv : Ev c.P c.r ⟨d, op, t, p, af, some (j, want)⟩ s.H s.op v)
    (k : SeqWP c ops Q (i + 1) rest (s.put d v)) : SeqWP c ops Q i (⟨d, op, t, p, af, some (j, want)⟩ :: rest) s := by
  intro hdr e a hs
  obtain ⟨ho, hr⟩ := drop_cons hdr
  have ho : ops[i]? = some ⟨d, op, t, p, af, some (j, want)⟩ := by simpa using ho
  have hy := yielded_of (ops := ops) hj (by rw [hs.size]; simpa [Nat.blt_eq] using ht) (hb _ _ (hs.slots u))
  simp only [List.length_cons, List.range'_succ, wpOpsIn, ho, Region.wanted, hy]
  rw [if_pos (by simp)]
  exact hv e a _ _ hs.ok (hs.H ▸ HSub.refl _) (fun x _ => hs.op x) (fun w e' hx hu => k hr e' _ ((hs.ext hx).put hd hu))
theorem sq_no {j u : Nat} {want : Bool} {v : Value} (hj : gslot ops j = some u) (ht : Nat.blt u c.nt = true)
    (hb : Less (sget s.sl u) (.raw v)) (hv : boolIs v want = false) (hd : dOK c.nt d = true)
    (k : SeqWP c ops Q (i + 1) rest (s.put d (.raw (.tuple #[])))) : SeqWP c ops Q i (⟨d, op, t, p, af, some (j, want)⟩ :: rest) s := by
  intro hdr e a hs
  obtain ⟨ho, hr⟩ := drop_cons hdr
  have ho : ops[i]? = some ⟨d, op, t, p, af, some (j, want)⟩ := by simpa using ho
  have hy := yielded_is (ops := ops) hj (by rw [hs.size]; simpa [Nat.blt_eq] using ht) (hb _ _ (hs.slots u)) want
  have hw : Region.wanted ⟨d, op, t, p, af, some (j, want)⟩ (yielded ops a.tmps) = false := by
    show (yielded ops a.tmps j == some want) = false
    rw [hy, hv]
  simp only [List.length_cons, List.range'_succ, wpOpsIn, ho]
  rw [if_neg (by rw [hw]; simp)]
  exact ⟨fun _ _ => trivial, k hr e _ (hs.put hd (by rw [Rep]; rfl))⟩
end seq
theorem semAt_of {o : Oper} (hnd : ∀ c, o.op ≠ .defer c) (r : Option Nat) (ρ : Operand → Value) : o.semAt r ρ = execOp ρ o := Oper.semAt_eq r ρ o hnd
theorem Ev.of_run {P : Program} {r : Option Nat} {o : Oper} {H : List AObj} {ρ : Operand → AV} {v : AV} (hnd : ∀ c, o.op ≠ .defer c)
    (h : ∀ e (ρc : Operand → Value), EnvOK e → HSub H e.H → (∀ x ∈ o.op.operands.toList, Rep e (ρ x) (ρc x)) → ∃ u e', (execOp ρc o).run P e.w = .ok (.value u) e'.w ∧ Ext e e' ∧ Rep e' v u) : Ev P r o H ρ v := by
  intro e a next Q' ok hH hx hn
  obtain ⟨u, e', hr, hxt, hu⟩ := h e a.eval ok hH hx
  refine ⟨about_FW _ _ _ _ _, ?_⟩
  show o.uponIn (FW r) 0 P a next Q' ((o.semAt r a.eval).run P e.w)
  rw [semAt_of hnd, hr]
  exact hn u e' hxt hu
theorem Ev.pure {P : Program} {r : Option Nat} {o : Oper} {H : List AObj} {ρ : Operand → AV} {v : AV} (hnd : ∀ c, o.op ≠ .defer c)
    (h : ∀ e (ρc : Operand → Value), EnvOK e → HSub H e.H → (∀ x ∈ o.op.operands.toList, Rep e (ρ x) (ρc x)) → ∃ u, (execOp ρc o).run P e.w = .ok (.value u) e.w ∧ Rep e v u) : Ev P r o H ρ v :=
  Ev.of_run hnd fun e ρc ok hH hx => let ⟨u, h1, h2⟩ := h e ρc ok hH hx; ⟨u, e, h1, .refl ok, h2⟩
variable {P : Program} {r : Option Nat} {H : List AObj} {ρ : Operand → AV}
theorem ev_mv {d : Option Tmp} {x : Operand} {t : TypeId} {p : String} {af : Array Edge} {g : Option (Nat × Bool)} {v : AV} (hx : Less (ρ x) v) : Ev P r ⟨d, .move x, t, p, af, g⟩ H ρ v :=
  Ev.pure (by intro c h; cases h) fun e ρc _ _ hs => ⟨ρc x, rfl, hx e _ (hs x (by simp [Op.operands]))⟩
theorem ev_as {d : Option Tmp} {x : Operand} {t : TypeId} {p : String} {af : Array Edge} {g : Option (Nat × Bool)} {v : AV} (hx : Less (ρ x) v) : Ev P r ⟨d, .assign x, t, p, af, g⟩ H ρ v :=
  Ev.pure (by intro c h; cases h) fun e ρc _ _ hs => ⟨ρc x, rfl, hx e _ (hs x (by simp [Op.operands]))⟩
theorem Ev.congr {o : Oper} {ρ' : Operand → AV} {v : AV} (h : ∀ x ∈ o.op.operands.toList, ρ' x = ρ x) (k : Ev P r o H ρ v) : Ev P r o H ρ' v :=
  fun e a next Q' ok hH hx hn => k e a next Q' ok hH (fun x hm => by rw [← h x hm]; exact hx x hm) hn
theorem ev_less {o : Oper} {v v' : AV} (h : Ev P r o H ρ v) (k : Less v v') : Ev P r o H ρ v' :=
  fun e a next Q' ok hH hx hn => h e a next Q' ok hH hx fun u e' hxt hu => hn u e' hxt (k _ _ hu)
end Go.Ab
namespace Go.Ab
variable [Tabs]
def isAggDesc : TypeDesc → Bool
  | .struct _ | .array _ _ => true
  | _ => false
def tySz (P : Program) (t : TypeId) : Option (Bool × Nat) :=
  match P.underlying t, P.info? t with
  | some d, some i => some (isAggDesc d, i.size)
  | _, _ => none
def fOff (P : Program) (s : TypeId) (f : Nat) : Option (Nat × TypeId) :=
  match P.underlying s with
  | some (.struct fs) =>
    match fs[f]? with
    | some fl =>
      match P.info? fl.type with
      | some i => bif Nat.beq i.size 0 then none else some (fl.offset, fl.type)
      | none => none
    | none => none
  | _ => none
def slElem (P : Program) (t : TypeId) : Option (TypeId × Nat) :=
  match P.underlying t with
  | some (.slice e) =>
    match P.info? e with
    | some i => some (e, i.size)
    | none => none
  | _ => none
def arrElem (P : Program) (t : TypeId) : Option (Nat × TypeId × Nat) :=
  match P.underlying t with
  | some (.array n e) =>
    match P.info? e with
    | some i => some (n, e, i.size)
    | none => none
  | _ => none
section types
variable {P : Program} {w : World}
theorem run_und {t : TypeId} {d : TypeDesc} (h : P.underlying t = some d) : (underlying t).run P w = .ok d w := by
  simp [underlying, h]
theorem run_info {t : TypeId} {i : TypeInfo} (h : P.info? t = some i) : (typeInfo t).run P w = .ok i w := by
  simp [typeInfo, h]
theorem run_size {t : TypeId} {i : TypeInfo} (h : P.info? t = some i) : (sizeOf t).run P w = .ok i.size w := by
  simp [sizeOf, run_info h]
theorem run_tyAgg {t : TypeId} {b : Bool} {n : Nat} (h : tySz P t = some (b, n)) : (isAgg t).run P w = .ok b w ∧ (sizeOf t).run P w = .ok n w := by
  unfold tySz at h
  split at h
  · rename_i d i hd hi
    simp only [Option.some.injEq, Prod.mk.injEq] at h
    obtain ⟨rfl, rfl⟩ := h
    refine ⟨?_, run_size hi⟩
    simp only [isAgg, Sem.run_bind, run_und hd, Result.andThen_ok]
    cases d <;> rfl
  · cases h
theorem slElem_und {t e : TypeId} {n : Nat} (h : slElem P t = some (e, n)) : P.underlying t = some (.slice e) ∧ ∃ i, P.info? e = some i ∧ i.size = n := by
  unfold slElem at h
  split at h
  · rename_i e' he
    split at h
    · rename_i i hi
      simp only [Option.some.injEq, Prod.mk.injEq] at h
      obtain ⟨rfl, rfl⟩ := h
      exact ⟨he, i, hi, rfl⟩
    · cases h
  · cases h
theorem arrElem_und {t e : TypeId} {k n : Nat} (h : arrElem P t = some (k, e, n)) : P.underlying t = some (.array k e) ∧ ∃ i, P.info? e = some i ∧ i.size = n := by
  unfold arrElem at h
  split at h
  · rename_i e' he
    split at h
    · rename_i i hi
      simp only [Option.some.injEq, Prod.mk.injEq] at h
      obtain ⟨rfl, rfl, rfl⟩ := h
      exact ⟨he, i, hi, rfl⟩
    · cases h
  · cases h
theorem fOff_und {s ft : TypeId} {f k : Nat} (h : fOff P s f = some (k, ft)) : ∃ fs fl i, P.underlying s = some (.struct fs) ∧ fs[f]? = some fl ∧ P.info? fl.type = some i ∧ i.size ≠ 0 ∧ fl.offset = k ∧ fl.type = ft := by
  unfold fOff at h
  split at h
  · rename_i fs hs
    split at h
    · rename_i fl hf
      split at h
      · rename_i i hi
        cases hb : Nat.beq i.size 0 with
        | true => rw [hb] at h; cases h
        | false =>
          rw [hb] at h
          simp only [cond_false, Option.some.injEq, Prod.mk.injEq] at h
          exact ⟨fs, fl, i, hs, hf, hi, (fun e => by rw [e] at hb; cases hb), h.1, h.2⟩
      · cases h
    · cases h
  · cases h
theorem run_loadVar_agg {t : TypeId} {b off : Nat} {vs : List Value} (ht : tySz P t = some (true, vs.length)) (hc : ∀ j v, vs[j]? = some v → w.cell? ⟨b, off + j, none⟩ = some v) :
    (loadVar t ⟨b, off, none⟩).run P w = .ok (.agg vs.toArray) w := by
  obtain ⟨h1, h2⟩ := run_tyAgg (w := w) ht
  have := run_loadCells_list (P := P) (w := w) ⟨b, off, none⟩ vs (fun j v hj => by rw [Addr.add_lit]; exact hc j v hj)
  simp [loadVar, h1, h2, this]
theorem run_loadVar_one {t : TypeId} {b off n : Nat} {v : Value} (ht : tySz P t = some (false, n)) (hc : w.cell? ⟨b, off, none⟩ = some v) :
    (loadVar t ⟨b, off, none⟩).run P w = .ok v w := by
  obtain ⟨h1, h2⟩ := run_tyAgg (w := w) ht
  simp [loadVar, h1, hc]
end types
theorem Less.trans {a b c : AV} (h : Less a b) (k : Less b c) : Less a c := fun e v x => k e v (h e v x)
theorem less_own (i sz : Nat) (es : List (List AV)) : Less (.own i sz es) (.sl sz es) := fun e v h => by
  rw [Rep.eq_def] at h; rw [Rep.eq_def]; obtain ⟨a, len, cap, h1, h2, h3, h4, h5, h6, _⟩ := h; exact ⟨a, len, cap, h1, h2, h3, h4, h5, h6⟩
theorem less_slx (sz : Nat) (es : List (List AV)) : Less (.slx sz es) (.sl sz es) := fun e v h => by
  rw [Rep.eq_def] at h; rw [Rep.eq_def]; obtain ⟨a, len, h1, h2, h3, h4, h5⟩ := h; exact ⟨a, len, len, h1, h2, Nat.le_refl _, h3, h4, h5⟩
theorem less_nilx (sz : Nat) : Less (.raw (.slice none 0 0)) (.slx sz []) := fun e v h => by
  rw [Rep.eq_def] at h; rw [Rep.eq_def]; exact ⟨none, 0, h, rfl, fun _ => rfl, by simp, fun _ h => by cases h⟩
theorem less_nil (sz : Nat) : Less (.raw (.slice none 0 0)) (.sl sz []) := fun e v h => by
  rw [Rep.eq_def] at h; rw [Rep.eq_def]; exact ⟨none, 0, 0, h, rfl, Nat.le_refl _, fun _ => rfl, by simp, fun _ h => by cases h⟩
def LessL : List AV → List AV → Prop
  | [], [] => True
  | a :: l, b :: m => Less a b ∧ LessL l m
  | _, _ => False
theorem LessL.rfl' : ∀ l, LessL l l
  | [] => trivial
  | a :: l => ⟨Less.rfl' a, LessL.rfl' l⟩
theorem LessL.rep {e : Env} : ∀ {l m : List AV} {vs : List Value}, LessL l m → RepL e l vs → RepL e m vs
  | [], [], _, _, k => k
  | a :: l, b :: m, _, h, k => by
    rw [RepL] at k; obtain ⟨v, rest, rfl, k1, k2⟩ := k
    exact RepL.cons (h.1 e v k1) (LessL.rep h.2 k2)
  | [], _ :: _, _, h, _ => h.elim
  | _ :: _, [], _, h, _ => h.elim
theorem less_agg {l m : List AV} (h : LessL l m) : Less (.agg l) (.agg m) := fun e v k => by
  rw [Rep] at k ⊢; obtain ⟨cs, k1, k2, k3⟩ := k; exact ⟨cs, k1, h.rep k2, k3⟩
theorem less_tup {l m : List AV} (h : LessL l m) : Less (.tup l) (.tup m) := fun e v k => by
  rw [Rep] at k ⊢; obtain ⟨cs, k1, k2⟩ := k; exact ⟨cs, k1, h.rep k2⟩
section ops
variable {P : Program} {r : Option Nat} {H : List AObj} {ρ : Operand → AV}
variable {d : Option Tmp} {t : TypeId} {p : String} {af : Array Edge} {g : Option (Nat × Bool)}
variable {x y z : Operand}
theorem rep_raw {e : Env} {a : AV} {v u : Value} (h : Less a (.raw u)) (k : Rep e a v) : v = u := by
  have := h e v k; rwa [Rep] at this
theorem ev_int2 {op : BinOp} {k : IntKind} {m n : Int} {xt yt : TypeId} {v : AV} (hx : Less (ρ x) (.raw (.int k m))) (hy : Less (ρ y) (.raw (.int k n)))
    (hr : ∀ w e, ∃ u, (binOp op xt (.int k m) (.int k n)).run P w = .ok u w ∧ Rep e v u) : Ev P r ⟨d, .binOp op xt x y yt, t, p, af, g⟩ H ρ v :=
  Ev.pure (by intro c h; cases h) fun e ρc _ _ hs => by
    have e1 := rep_raw hx (hs x (by simp [Op.operands]))
    have e2 := rep_raw hy (hs y (by simp [Op.operands]))
    obtain ⟨u, h1, h2⟩ := hr e.w e
    refine ⟨u, ?_, h2⟩
    have hg : (eqGuard op xt x y (.int k m) (.int k n)).run P e.w = .ok () e.w := by
      unfold eqGuard; split <;> simp
    simp [execOp, e1, e2, hg, h1]
theorem ev_add {k : IntKind} {m n q : Int} {xt yt : TypeId} (hx : Less (ρ x) (.raw (.int k m))) (hy : Less (ρ y) (.raw (.int k n))) (hq : k.wrap (m + n) = q) :
    Ev P r ⟨d, .binOp .add xt x y yt, t, p, af, g⟩ H ρ (.raw (.int k q)) :=
  ev_int2 hx hy fun w e => ⟨_, by simp [binOp, Op.intArith, hq]; rfl, by rw [Rep]⟩
theorem ev_sub {k : IntKind} {m n q : Int} {xt yt : TypeId} (hx : Less (ρ x) (.raw (.int k m))) (hy : Less (ρ y) (.raw (.int k n))) (hq : k.wrap (m - n) = q) :
    Ev P r ⟨d, .binOp .sub xt x y yt, t, p, af, g⟩ H ρ (.raw (.int k q)) :=
  ev_int2 hx hy fun w e => ⟨_, by simp [binOp, Op.intArith, hq]; rfl, by rw [Rep]⟩
theorem ev_mul {k : IntKind} {m n q : Int} {xt yt : TypeId} (hx : Less (ρ x) (.raw (.int k m))) (hy : Less (ρ y) (.raw (.int k n))) (hq : k.wrap (m * n) = q) :
    Ev P r ⟨d, .binOp .mul xt x y yt, t, p, af, g⟩ H ρ (.raw (.int k q)) :=
  ev_int2 hx hy fun w e => ⟨_, by simp [binOp, Op.intArith, hq]; rfl, by rw [Rep]⟩
theorem ev_eql {k : IntKind} {m n : Int} {xt yt : TypeId} (hx : Less (ρ x) (.raw (.int k m))) (hy : Less (ρ y) (.raw (.int k n))) :
    Ev P r ⟨d, .binOp .eql xt x y yt, t, p, af, g⟩ H ρ (.raw (.bool (decide (m = n)))) :=
  ev_int2 hx hy fun w e => ⟨_, by simp [binOp, Op.intCmp]; rfl, by rw [Rep]; rfl⟩
theorem ev_neq {k : IntKind} {m n : Int} {xt yt : TypeId} (hx : Less (ρ x) (.raw (.int k m))) (hy : Less (ρ y) (.raw (.int k n))) :
    Ev P r ⟨d, .binOp .neq xt x y yt, t, p, af, g⟩ H ρ (.raw (.bool (decide (m ≠ n)))) :=
  ev_int2 hx hy fun w e => ⟨.bool (m != n), by simp [binOp, Op.intCmp], by rw [Rep]; by_cases h : m = n <;> simp [h]⟩
theorem ev_lss {k : IntKind} {m n : Int} {xt yt : TypeId} (hx : Less (ρ x) (.raw (.int k m))) (hy : Less (ρ y) (.raw (.int k n))) :
    Ev P r ⟨d, .binOp .lss xt x y yt, t, p, af, g⟩ H ρ (.raw (.bool (decide (m < n)))) :=
  ev_int2 hx hy fun w e => ⟨_, by simp [binOp, Op.intCmp]; rfl, by rw [Rep]⟩
theorem ev_leq {k : IntKind} {m n : Int} {xt yt : TypeId} (hx : Less (ρ x) (.raw (.int k m))) (hy : Less (ρ y) (.raw (.int k n))) :
    Ev P r ⟨d, .binOp .leq xt x y yt, t, p, af, g⟩ H ρ (.raw (.bool (decide (m ≤ n)))) :=
  ev_int2 hx hy fun w e => ⟨_, by simp [binOp, Op.intCmp]; rfl, by rw [Rep]⟩
theorem ev_gtr {k : IntKind} {m n : Int} {xt yt : TypeId} (hx : Less (ρ x) (.raw (.int k m))) (hy : Less (ρ y) (.raw (.int k n))) :
    Ev P r ⟨d, .binOp .gtr xt x y yt, t, p, af, g⟩ H ρ (.raw (.bool (decide (n < m)))) :=
  ev_int2 hx hy fun w e => ⟨.bool (decide (m > n)), by simp [binOp, Op.intCmp], by rw [Rep]⟩
theorem ev_geq {k : IntKind} {m n : Int} {xt yt : TypeId} (hx : Less (ρ x) (.raw (.int k m))) (hy : Less (ρ y) (.raw (.int k n))) :
    Ev P r ⟨d, .binOp .geq xt x y yt, t, p, af, g⟩ H ρ (.raw (.bool (decide (n ≤ m)))) :=
  ev_int2 hx hy fun w e => ⟨.bool (decide (m ≥ n)), by simp [binOp, Op.intCmp], by rw [Rep]⟩
theorem ev_not {b : Bool} {xt : TypeId} (hx : Less (ρ x) (.raw (.bool b))) : Ev P r ⟨d, .unOp .not xt x, t, p, af, g⟩ H ρ (.raw (.bool !b)) :=
  Ev.pure (by intro c h; cases h) fun e ρc _ _ hs => by
    have e1 := rep_raw hx (hs x (by simp [Op.operands]))
    exact ⟨.bool !b, by simp [execOp, e1, Op.unary], by rw [Rep]⟩
theorem ev_pick {b : Bool} {v : AV} (hx : Less (ρ x) (.raw (.bool b))) (h1 : b = true → Less (ρ y) v) (h2 : b = false → Less (ρ z) v) : Ev P r ⟨d, .pick x y z, t, p, af, g⟩ H ρ v :=
  Ev.pure (by intro c h; cases h) fun e ρc _ _ hs => by
    have e1 := rep_raw hx (hs x (by simp [Op.operands]))
    have e2 := hs y (by simp [Op.operands])
    have e3 := hs z (by simp [Op.operands])
    refine ⟨if b then ρc y else ρc z, by simp [execOp, e1, asBool], ?_⟩
    cases b with
    | true => exact h1 rfl e _ e2
    | false => exact h2 rfl e _ e3
theorem ev_pickT {v : AV} (hx : Less (ρ x) (.raw (.bool true))) (h1 : Less (ρ y) v) : Ev P r ⟨d, .pick x y z, t, p, af, g⟩ H ρ v := ev_pick hx (fun _ => h1) (fun h => by cases h)
theorem ev_pickF {v : AV} (hx : Less (ρ x) (.raw (.bool false))) (h1 : Less (ρ z) v) : Ev P r ⟨d, .pick x y z, t, p, af, g⟩ H ρ v := ev_pick hx (fun h => by cases h) (fun _ => h1)
theorem ev_fieldAddr {s ft : TypeId} {f i off k : Nat} (hf : fOff P s f = some (k, ft)) (hx : Less (ρ x) (.ptr i off)) : Ev P r ⟨d, .fieldAddr s x f, t, p, af, g⟩ H ρ (.ptr i (off + k)) :=
  Ev.pure (by intro c h; cases h) fun e ρc _ _ hs => by
    obtain ⟨fs, fl, ti, h1, h2, h3, h4, rfl, rfl⟩ := fOff_und hf
    have := hx e _ (hs x (by simp [Op.operands]))
    rw [Rep] at this
    obtain ⟨a1, a2, b, hb, hv⟩ := this
    refine ⟨.pointer (some ⟨b, off + fl.offset, none⟩), ?_, by rw [Rep]; exact ⟨a1, a2, b, hb, rfl⟩⟩
    simp [execOp, Instr.fieldAt, run_und h1, h2, hv, Instr.sureAddr, fieldPlace, run_size h3, h4, Addr.add_lit]
theorem ev_fieldAddr_i {s ft : TypeId} {f k : Nat} {l : List AV} (hf : fOff P s f = some (k, ft)) (hx : Less (ρ x) (.iptr l)) : Ev P r ⟨d, .fieldAddr s x f, t, p, af, g⟩ H ρ (.iptr (l.drop k)) :=
  Ev.pure (by intro c h; cases h) fun e ρc _ _ hs => by
    obtain ⟨fs, fl, ti, h1, h2, h3, h4, rfl, rfl⟩ := fOff_und hf
    have := hx e _ (hs x (by simp [Op.operands]))
    rw [Rep] at this
    obtain ⟨b, off, hv, hc⟩ := this
    refine ⟨.pointer (some ⟨b, off + fl.offset, none⟩), ?_, by rw [Rep]; exact ⟨b, _, rfl, hc.drop _⟩⟩
    simp [execOp, Instr.fieldAt, run_und h1, h2, hv, Instr.sureAddr, fieldPlace, run_size h3, h4, Addr.add_lit]
theorem rep_agg_mk {e : Env} {l : List AV} {vs : List Value} (h : RepL e l vs) (h1 : ∀ c ∈ vs, isCell c = true) : Rep e (.agg l) (.agg vs.toArray) := by
  rw [Rep]; exact ⟨vs.toArray, rfl, by simpa using h, by simpa using h1⟩
theorem ev_load {i off : Nat} {l : List AV} {v : AV} {lt : TypeId} {n : Nat} (hx : Less (ρ x) (.ptr i off)) (hH : H[i]? = some (.cells l)) (ht : tySz P lt = some (false, n)) (hv : l[off]? = some v) :
    Ev P r ⟨d, .load lt x, t, p, af, g⟩ H ρ v :=
  Ev.pure (by intro c h; cases h) fun e ρc ok hE hs => by
    have := hx e _ (hs x (by simp [Op.operands]))
    rw [Rep] at this
    obtain ⟨a1, a2, b, hb, hpv⟩ := this
    obtain ⟨b', cs, ct, k1, k2, k3, k4, k5⟩ := ok.objs i _ (pre_get hE hH)
    rw [hb] at k1; cases k1
    obtain ⟨u, hu1, hu2⟩ := k4.get off v hv
    refine ⟨u, ?_, hu2⟩
    have hcell : e.w.cell? ⟨b, off, none⟩ = some u := by unfold World.cell?; simp only [k3]; simpa using hu1
    simp [execOp, Instr.loadAt, hpv, Instr.sureAddr, run_loadVar_one ht hcell]
theorem ev_load_agg {i off n : Nat} {l : List AV} {lt : TypeId} (hx : Less (ρ x) (.ptr i off)) (hH : H[i]? = some (.cells l)) (ht : tySz P lt = some (true, n)) (hn : Nat.ble (off + n) l.length = true) :
    Ev P r ⟨d, .load lt x, t, p, af, g⟩ H ρ (.agg ((l.drop off).take n)) :=
  Ev.pure (by intro c h; cases h) fun e ρc ok hE hs => by
    have := hx e _ (hs x (by simp [Op.operands]))
    rw [Rep] at this
    obtain ⟨a1, a2, b, hb, hpv⟩ := this
    obtain ⟨b', cs, ct, k1, k2, k3, k4, k5⟩ := ok.objs i _ (pre_get hE hH)
    rw [hb] at k1; cases k1
    have hlen := k4.length
    have hn' : off + n ≤ l.length := Nat.le_of_ble_eq_true hn
    have hlen2 : ((cs.toList.drop off).take n).length = n := by rw [List.length_take, List.length_drop, hlen]; omega
    refine ⟨.agg ((cs.toList.drop off).take n).toArray, ?_, rep_agg_mk ((k4.drop off).take n) (fun c hc => k5 c (List.mem_of_mem_drop (List.mem_of_mem_take hc)))⟩
    have hld := run_loadVar_agg (P := P) (w := e.w) (t := lt) (b := b) (off := off) (vs := (cs.toList.drop off).take n) (by rw [hlen2]; exact ht) (fun j v hj => by
      unfold World.cell?; simp only [k3]
      have h1 : j < n := by have := (List.getElem?_eq_some_iff.1 hj).1; rw [hlen2] at this; exact this
      rw [List.getElem?_take_of_lt h1, List.getElem?_drop] at hj
      simpa using hj)
    simp only [List.take_drop] at hld ⊢
    simp [execOp, Instr.loadAt, hpv, Instr.sureAddr, hld]
theorem ev_load_i {l : List AV} {v : AV} {lt : TypeId} {n : Nat} (hx : Less (ρ x) (.iptr l)) (ht : tySz P lt = some (false, n)) (hv : l[0]? = some v) : Ev P r ⟨d, .load lt x, t, p, af, g⟩ H ρ v :=
  Ev.pure (by intro c h; cases h) fun e ρc ok hE hs => by
    have := hx e _ (hs x (by simp [Op.operands]))
    rw [Rep] at this
    obtain ⟨b, off, hpv, hc⟩ := this
    obtain ⟨_, u, h1, h2, _⟩ := hc.get 0 v hv
    rw [Nat.add_zero] at h1
    exact ⟨u, by simp [execOp, Instr.loadAt, hpv, Instr.sureAddr, run_loadVar_one ht h1], h2⟩
theorem CellsAt.values {e : Env} : ∀ {l : List AV} {b off : Nat}, CellsAt e l b off → ∃ vs : List Value, RepL e l vs ∧ (∀ v ∈ vs, isCell v = true) ∧ ∀ j v, vs[j]? = some v → e.w.cell? ⟨b, off + j, none⟩ = some v
  | [], _, _, _ => ⟨[], RepL.nil, by simp, by simp⟩
  | a :: l, b, off, h => by
    rw [CellsAt] at h
    obtain ⟨⟨_, v, h2, h3, h4⟩, h5⟩ := h
    obtain ⟨vs, k1, k2, k3⟩ := CellsAt.values h5
    refine ⟨v :: vs, RepL.cons h3 k1, by simpa using ⟨h4, k2⟩, fun j u hj => ?_⟩
    cases j with
    | zero => simp at hj; subst hj; exact h2
    | succ j =>
      have := k3 j u (by simpa using hj)
      rwa [show off + 1 + j = off + (j + 1) by omega] at this
theorem ev_load_agg_i {l : List AV} {lt : TypeId} {n : Nat} (hx : Less (ρ x) (.iptr l)) (ht : tySz P lt = some (true, n)) (hn : n ≤ l.length) : Ev P r ⟨d, .load lt x, t, p, af, g⟩ H ρ (.agg (l.take n)) :=
  Ev.pure (by intro c h; cases h) fun e ρc ok hE hs => by
    have := hx e _ (hs x (by simp [Op.operands]))
    rw [Rep] at this
    obtain ⟨b, off, hpv, hc⟩ := this
    obtain ⟨vs, h1, h2, h3⟩ := (hc.take n).values
    have hl : vs.length = n := by rw [h1.length, List.length_take]; omega
    subst hl
    exact ⟨.agg vs.toArray, by simp [execOp, Instr.loadAt, hpv, Instr.sureAddr, run_loadVar_agg ht h3], rep_agg_mk h1 h2⟩
theorem ev_index {xt et : TypeId} {sz k : Nat} {es : List (List AV)} {c : List AV} {ik : IntKind} {n : Int} (ht : slElem P xt = some (et, sz)) (hx : Less (ρ x) (.sl sz es)) (hy : Less (ρ y) (.raw (.int ik n)))
    (hn : n = (k : Int)) (hk : es[k]? = some c) : Ev P r ⟨d, .indexAddr xt x y, t, p, af, g⟩ H ρ (.iptr c) :=
  Ev.pure (by intro c h; cases h) fun e ρc ok hE hs => by
    subst hn
    obtain ⟨h1, ti, h2, rfl⟩ := slElem_und ht
    have e2 := rep_raw hy (hs y (by simp [Op.operands]))
    have := hx e _ (hs x (by simp [Op.operands]))
    rw [Rep] at this
    obtain ⟨a, len, cap, hv, rfl, hle, hnil, hsz, hc⟩ := this
    have hk' : k < es.length := lt_of_get? hk
    cases a with
    | none => have := hnil rfl; omega
    | some ad =>
      obtain ⟨hsp, hel⟩ := hc ad rfl
      obtain ⟨b, off, sp⟩ := ad
      have hsp := hsp (by omega); simp only at hsp; subst hsp
      refine ⟨.pointer (some ⟨b, off + k * ti.size, none⟩), ?_, by rw [Rep]; exact ⟨b, _, rfl, hel.get k c hsz hk⟩⟩
      simp [execOp, Instr.indexAt, hv, e2, asIntOf, run_und h1, run_size h2, hk', Addr.add_lit]
theorem ev_index_map {α : Type} {xt et : TypeId} {sz k : Nat} {xs : List α} {f : α → List AV} {ik : IntKind} {n : Int} (ht : slElem P xt = some (et, sz)) (hx : Less (ρ x) (.sl sz (xs.map f))) (hy : Less (ρ y) (.raw (.int ik n)))
    (hn : n = (k : Int)) (hk : k < xs.length) : Ev P r ⟨d, .indexAddr xt x y, t, p, af, g⟩ H ρ (.iptr (f xs[k])) :=
  ev_index ht hx hy hn (by simp [hk])
theorem ev_index_box {xt et : TypeId} {len sz i off k : Nat} {ik : IntKind} {n : Int} (ht : arrElem P xt = some (len, et, sz)) (hx : Less (ρ x) (.ptr i off)) (hy : Less (ρ y) (.raw (.int ik n)))
    (hn : n = (k : Int)) (hk : k < len) : Ev P r ⟨d, .indexAddr xt x y, t, p, af, g⟩ H ρ (.ptr i (off + k * sz)) :=
  Ev.pure (by intro c h; cases h) fun e ρc ok hE hs => by
    subst hn
    obtain ⟨h1, ti, h2, rfl⟩ := arrElem_und ht
    have e2 := rep_raw hy (hs y (by simp [Op.operands]))
    have := hx e _ (hs x (by simp [Op.operands]))
    rw [Rep] at this
    obtain ⟨a1, a2, b, hb, hpv⟩ := this
    refine ⟨.pointer (some ⟨b, off + k * ti.size, none⟩), ?_, by rw [Rep]; exact ⟨a1, a2, b, hb, rfl⟩⟩
    simp [execOp, Instr.indexAt, hpv, e2, asIntOf, run_und h1, run_size h2, hk, Addr.add_lit, Instr.sureAddr]
theorem ev_index_msl {xt et : TypeId} {sz i off len cap k : Nat} {ik : IntKind} {n : Int} (ht : slElem P xt = some (et, sz)) (hx : Less (ρ x) (.msl i off len cap)) (hy : Less (ρ y) (.raw (.int ik n)))
    (hn : n = (k : Int)) (hk : k < len) : Ev P r ⟨d, .indexAddr xt x y, t, p, af, g⟩ H ρ (.ptr i (off + k * sz)) :=
  Ev.pure (by intro c h; cases h) fun e ρc ok hE hs => by
    subst hn
    obtain ⟨h1, ti, h2, rfl⟩ := slElem_und ht
    have e2 := rep_raw hy (hs y (by simp [Op.operands]))
    have := hx e _ (hs x (by simp [Op.operands]))
    rw [Rep] at this
    obtain ⟨a1, a2, b, hb, hpv, hlc⟩ := this
    refine ⟨.pointer (some ⟨b, off + k * ti.size, none⟩), ?_, by rw [Rep]; exact ⟨a1, a2, b, hb, rfl⟩⟩
    simp [execOp, Instr.indexAt, hpv, e2, asIntOf, run_und h1, run_size h2, hk, Addr.add_lit]
end ops
end Go.Ab
namespace Go.Ab
variable [Tabs]
mutual
def AV.pureB : AV → Bool
  | .any | .raw _ => true
  | .agg l | .tup l | .iptr l => AV.pureL l
  | .sl _ es => AV.pureE es
  | .slx _ es => AV.pureE es
  | .fn _ x y => AV.pureL x && AV.pureL y
  | .ifc _ a | .cnd _ a => a.pureB
  | .ptr _ _ | .own _ _ _ | .msl _ _ _ _ | .mslp _ _ _ | .ownb _ _ _ _ | .uptr _ _ | .mp _ => false
def AV.pureL : List AV → Bool
  | [] => true
  | a :: l => a.pureB && AV.pureL l
def AV.pureE : List (List AV) → Bool
  | [] => true
  | c :: es => AV.pureL c && AV.pureE es
end
section pure
variable {e e' : Env}
mutual
theorem Rep.pure (hG : e'.G = e.G) (hw : e'.w = e.w) : ∀ (a : AV) {v : Value}, a.pureB = true → Rep e a v → Rep e' a v
  | .any, _, _, _ => by rw [Rep]; trivial
  | .raw u, v, _, k => by rw [Rep] at k ⊢; exact k
  | .agg l, v, h, k => by rw [Rep] at k ⊢; obtain ⟨cs, h1, h2, h3⟩ := k; exact ⟨cs, h1, RepL.pure hG hw l h h2, h3⟩
  | .tup l, v, h, k => by rw [Rep] at k ⊢; obtain ⟨cs, h1, h2⟩ := k; exact ⟨cs, h1, RepL.pure hG hw l h h2⟩
  | .iptr l, v, h, k => by rw [Rep] at k ⊢; obtain ⟨b, off, h1, h2⟩ := k; exact ⟨b, off, h1, CellsAt.pure hG hw l h h2⟩
  | .sl sz es, v, h, k => by
    rw [Rep] at k ⊢; obtain ⟨a, len, cap, h1, h2, h3, h4, h5, h6⟩ := k
    exact ⟨a, len, cap, h1, h2, h3, h4, h5, fun ad ha => ⟨(h6 ad ha).1, ElemsAt.pure hG hw es h (h6 ad ha).2⟩⟩
  | .slx sz es, v, h, k => by
    rw [Rep] at k ⊢; obtain ⟨a, len, h1, h2, h4, h5, h6⟩ := k
    exact ⟨a, len, h1, h2, h4, h5, fun ad ha => ⟨(h6 ad ha).1, ElemsAt.pure hG hw es h (h6 ad ha).2⟩⟩
  | .fn f x y, v, h, k => by
    rw [AV.pureB, Bool.and_eq_true] at h
    rw [Rep] at k ⊢; obtain ⟨p, q, h1, h2, h3⟩ := k; exact ⟨p, q, h1, RepL.pure hG hw x h.1 h2, RepL.pure hG hw y h.2 h3⟩
  | .ifc t a, v, h, k => by rw [Rep] at k ⊢; obtain ⟨x, h1, h2⟩ := k; exact ⟨x, h1, Rep.pure hG hw a h h2⟩
  | .cnd c a, v, h, k => by rw [Rep] at k ⊢; exact fun hc => Rep.pure hG hw a h (k hc)
  | .ptr _ _, _, h, _ => by cases h
  | .own _ _ _, _, h, _ => by cases h
  | .msl _ _ _ _, _, h, _ => by cases h
  | .mslp _ _ _, _, h, _ => by cases h
  | .ownb _ _ _ _, _, h, _ => by cases h
  | .uptr _ _, _, h, _ => by cases h
  | .mp _, _, h, _ => by cases h
theorem RepL.pure (hG : e'.G = e.G) (hw : e'.w = e.w) : ∀ (l : List AV) {vs : List Value}, AV.pureL l = true → RepL e l vs → RepL e' l vs
  | [], _, _, k => by rw [RepL] at k ⊢; exact k
  | a :: l, _, h, k => by
    rw [AV.pureL, Bool.and_eq_true] at h
    rw [RepL] at k ⊢; obtain ⟨v, rest, h1, h2, h3⟩ := k; exact ⟨v, rest, h1, Rep.pure hG hw a h.1 h2, RepL.pure hG hw l h.2 h3⟩
theorem CellsAt.pure (hG : e'.G = e.G) (hw : e'.w = e.w) : ∀ (l : List AV) {b off : Nat}, AV.pureL l = true → CellsAt e l b off → CellsAt e' l b off
  | [], _, _, _, _ => by rw [CellsAt]; trivial
  | a :: l, b, off, h, k => by
    rw [AV.pureL, Bool.and_eq_true] at h
    rw [CellsAt] at k ⊢; obtain ⟨⟨h1, v, h2, h3, h4⟩, h5⟩ := k
    exact ⟨⟨by rw [hG]; exact h1, v, by rw [hw]; exact h2, Rep.pure hG hw a h.1 h3, h4⟩, CellsAt.pure hG hw l h.2 h5⟩
theorem ElemsAt.pure (hG : e'.G = e.G) (hw : e'.w = e.w) : ∀ (es : List (List AV)) {b off : Nat}, AV.pureE es = true → ElemsAt e es b off → ElemsAt e' es b off
  | [], _, _, _, _ => by rw [ElemsAt]; trivial
  | c :: es, b, off, h, k => by
    rw [AV.pureE, Bool.and_eq_true] at h
    rw [ElemsAt] at k ⊢; exact ⟨CellsAt.pure hG hw c h.1 k.1, ElemsAt.pure hG hw es h.2 k.2⟩
end
end pure
theorem pureE_map {α : Type} {f : α → List AV} : ∀ {xs : List α}, (∀ x ∈ xs, AV.pureL (f x) = true) → AV.pureE (xs.map f) = true
  | [], _ => by simp [AV.pureE]
  | x :: xs, h => by
    simp only [List.map_cons, AV.pureE, Bool.and_eq_true]
    exact ⟨h x (by simp), pureE_map fun y hy => h y (List.mem_cons_of_mem _ hy)⟩
mutual
def AV.inB (n : Nat) : AV → Bool
  | .any | .raw _ => true
  | .agg l | .tup l | .iptr l => AV.inL n l
  | .sl _ es | .slx _ es => AV.inE n es
  | .fn _ x y => AV.inL n x && AV.inL n y
  | .ifc _ a | .cnd _ a => a.inB n
  | .ptr i _ | .msl i _ _ _ | .mslp i _ _ | .uptr i _ | .mp i => Nat.blt i n
  | .own i _ es => Nat.blt i n && AV.inE n es
  | .ownb i _ _ es => Nat.blt i n && AV.inE n es
def AV.inL (n : Nat) : List AV → Bool
  | [] => true
  | a :: l => a.inB n && AV.inL n l
def AV.inE (n : Nat) : List (List AV) → Bool
  | [] => true
  | c :: es => AV.inL n c && AV.inE n es
end
theorem inE_map {α : Type} {n : Nat} {f : α → List AV} : ∀ {xs : List α}, (∀ x ∈ xs, AV.inL n (f x) = true) → AV.inE n (xs.map f) = true
  | [], _ => by simp [AV.inE]
  | x :: xs, h => by
    simp only [List.map_cons, AV.inE, Bool.and_eq_true]
    exact ⟨h x (by simp), inE_map fun y hy => h y (List.mem_cons_of_mem _ hy)⟩
def Env.cut (e : Env) (n : Nat) : Env := { e with H := e.H.take n }
theorem Env.cut_T {e : Env} {n i : Nat} (h : i < n) : (e.cut n).T i = e.T i := by
  unfold Env.T Env.cut; rw [List.getElem?_take_of_lt h]
mutual
theorem Rep.cut {e : Env} {n : Nat} : ∀ (a : AV) {v : Value}, a.inB n = true → Rep e a v → Rep (e.cut n) a v
  | .any, _, _, _ => by rw [Rep]; trivial
  | .raw u, v, _, k => by rw [Rep] at k ⊢; exact k
  | .agg l, v, h, k => by rw [Rep] at k ⊢; obtain ⟨cs, h1, h2, h3⟩ := k; exact ⟨cs, h1, RepL.cut l h h2, h3⟩
  | .tup l, v, h, k => by rw [Rep] at k ⊢; obtain ⟨cs, h1, h2⟩ := k; exact ⟨cs, h1, RepL.cut l h h2⟩
  | .iptr l, v, h, k => by rw [Rep] at k ⊢; obtain ⟨b, off, h1, h2⟩ := k; exact ⟨b, off, h1, CellsAt.cut l h h2⟩
  | .sl sz es, v, h, k => by
    rw [Rep] at k ⊢; obtain ⟨a, len, cap, h1, h2, h3, h4, h5, h6⟩ := k
    exact ⟨a, len, cap, h1, h2, h3, h4, h5, fun ad ha => ⟨(h6 ad ha).1, ElemsAt.cut es h (h6 ad ha).2⟩⟩
  | .slx sz es, v, h, k => by
    rw [Rep] at k ⊢; obtain ⟨a, len, h1, h2, h4, h5, h6⟩ := k
    exact ⟨a, len, h1, h2, h4, h5, fun ad ha => ⟨(h6 ad ha).1, ElemsAt.cut es h (h6 ad ha).2⟩⟩
  | .fn f x y, v, h, k => by
    rw [AV.inB, Bool.and_eq_true] at h
    rw [Rep] at k ⊢; obtain ⟨p, q, h1, h2, h3⟩ := k; exact ⟨p, q, h1, RepL.cut x h.1 h2, RepL.cut y h.2 h3⟩
  | .ifc t a, v, h, k => by rw [Rep] at k ⊢; obtain ⟨x, h1, h2⟩ := k; exact ⟨x, h1, Rep.cut a h h2⟩
  | .cnd c a, v, h, k => by rw [Rep] at k ⊢; exact fun hc => Rep.cut a h (k hc)
  | .ptr i off, v, h, k => by
    have hi : i < n := by rw [AV.inB] at h; simpa [Nat.blt_eq] using h
    rw [Rep] at k ⊢; obtain ⟨h1, h2, b, h3, h4⟩ := k
    exact ⟨by simp [Env.cut]; omega, by rw [Env.cut_T hi]; exact h2, b, h3, h4⟩
  | .msl i off len cap, v, h, k => by
    have hi : i < n := by rw [AV.inB] at h; simpa [Nat.blt_eq] using h
    rw [Rep] at k ⊢; obtain ⟨h1, h2, b, h3, h4⟩ := k
    exact ⟨by simp [Env.cut]; omega, by rw [Env.cut_T hi]; exact h2, b, h3, h4⟩
  | .mslp i off len, v, h, k => by
    have hi : i < n := by rw [AV.inB] at h; simpa [Nat.blt_eq] using h
    rw [Rep] at k ⊢; obtain ⟨h1, h2, b, cap, h3, h4⟩ := k
    exact ⟨by simp [Env.cut]; omega, by rw [Env.cut_T hi]; exact h2, b, cap, h3, h4⟩
  | .mp i, v, h, k => by
    have hi : i < n := by rw [AV.inB] at h; simpa [Nat.blt_eq] using h
    rw [Rep] at k ⊢; obtain ⟨h1, h2, b, h3, h4⟩ := k
    exact ⟨by simp [Env.cut]; omega, by rw [Env.cut_T hi]; exact h2, b, h3, h4⟩
  | .own i sz es, v, h, k => by
    rw [AV.inB, Bool.and_eq_true] at h
    have hi : i < n := by simpa [Nat.blt_eq] using h.1
    rw [Rep] at k ⊢; obtain ⟨a, len, cap, h1, h2, h3, h4, h5, h6, h7, h8, h10⟩ := k
    exact ⟨a, len, cap, h1, h2, h3, h4, h5, fun ad ha => ⟨(h6 ad ha).1, ElemsAt.cut es h.2 (h6 ad ha).2⟩, by simp [Env.cut]; omega, by rw [Env.cut_T hi]; exact h8, by rw [Env.cut_T hi]; exact h10⟩
  | .uptr i m, v, h, k => by
    have hi : i < n := by rw [AV.inB] at h; simpa [Nat.blt_eq] using h
    rw [Rep] at k ⊢; obtain ⟨h7, h8, h10⟩ := k
    exact ⟨by simp [Env.cut]; omega, by rw [Env.cut_T hi]; exact h8, by rw [Env.cut_T hi]; exact h10⟩
  | .ownb i sz t es, v, h, k => by
    rw [AV.inB, Bool.and_eq_true] at h
    have hi : i < n := by simpa [Nat.blt_eq] using h.1
    rw [Rep] at k ⊢; obtain ⟨a, len, cap, h1, h2, h3, h4, h5, h6, h7, h8, h10⟩ := k
    exact ⟨a, len, cap, h1, h2, h3, h4, h5, fun ad ha => ⟨(h6 ad ha).1, ElemsAt.cut es h.2 (h6 ad ha).2⟩, by simp [Env.cut]; omega, by rw [Env.cut_T hi]; exact h8, by rw [Env.cut_T hi]; exact h10⟩
theorem RepL.cut {e : Env} {n : Nat} : ∀ (l : List AV) {vs : List Value}, AV.inL n l = true → RepL e l vs → RepL (e.cut n) l vs
  | [], _, _, k => by rw [RepL] at k ⊢; exact k
  | a :: l, _, h, k => by
    rw [AV.inL, Bool.and_eq_true] at h
    rw [RepL] at k ⊢; obtain ⟨v, rest, h1, h2, h3⟩ := k; exact ⟨v, rest, h1, Rep.cut a h.1 h2, RepL.cut l h.2 h3⟩
theorem CellsAt.cut {e : Env} {n : Nat} : ∀ (l : List AV) {b off : Nat}, AV.inL n l = true → CellsAt e l b off → CellsAt (e.cut n) l b off
  | [], _, _, _, _ => by rw [CellsAt]; trivial
  | a :: l, b, off, h, k => by
    rw [AV.inL, Bool.and_eq_true] at h
    rw [CellsAt] at k ⊢; obtain ⟨⟨h1, v, h2, h3, h4⟩, h5⟩ := k
    exact ⟨⟨h1, v, h2, Rep.cut a h.1 h3, h4⟩, CellsAt.cut l h.2 h5⟩
theorem ElemsAt.cut {e : Env} {n : Nat} : ∀ (es : List (List AV)) {b off : Nat}, AV.inE n es = true → ElemsAt e es b off → ElemsAt (e.cut n) es b off
  | [], _, _, _, _ => by rw [ElemsAt]; trivial
  | c :: es, b, off, h, k => by
    rw [AV.inE, Bool.and_eq_true] at h
    rw [ElemsAt] at k ⊢; exact ⟨CellsAt.cut c h.1 k.1, ElemsAt.cut es h.2 k.2⟩
end
def AObj.inB (n : Nat) : AObj → Bool
  | .cells l => AV.inL n l
  | .pre l => AV.inL n l
  | .tcells _ l => AV.inL n l
  | _ => true
def slotsIn (n : Nat) : List (Nat × AV) → Bool
  | [] => true
  | (_, a) :: l => a.inB n && slotsIn n l
def objsIn (n : Nat) : List AObj → Bool
  | [] => true
  | o :: l => o.inB n && objsIn n l
theorem slotsIn_get {n : Nat} : ∀ {l : List (Nat × AV)} (t : Nat), slotsIn n l = true → (sget l t).inB n = true
  | [], _, _ => by simp [sget, AV.inB]
  | (u, a) :: l, t, h => by
    simp only [slotsIn, Bool.and_eq_true] at h
    simp only [sget]
    cases u == t with
    | true => exact h.1
    | false => exact slotsIn_get t h.2
theorem objsIn_get {n : Nat} : ∀ {l : List AObj} {i : Nat} {o : AObj}, objsIn n l = true → l[i]? = some o → o.inB n = true
  | [], i, _, _, h => by simp at h
  | x :: l, 0, o, h, ho => by
    simp only [objsIn, Bool.and_eq_true] at h; simp at ho; subst ho; exact h.1
  | x :: l, i + 1, o, h, ho => by
    simp only [objsIn, Bool.and_eq_true] at h; exact objsIn_get h.2 (by simpa using ho)
def dfIn (n : Nat) : List ADef → Bool
  | [] => true
  | .call _ as cs :: l => AV.inL n as && AV.inL n cs && dfIn n l
  | .mark i :: l => Nat.blt i n && dfIn n l
theorem DRepL.cut {e : Env} {n : Nat} : ∀ {l : List ADef} {ds : List Deferred}, dfIn n l = true → DRepL e l ds → DRepL (e.cut n) l ds
  | [], _, _, k => k
  | .call f as cs :: l, _, h, k => by
    simp only [dfIn, Bool.and_eq_true] at h
    obtain ⟨d, rest, k1, ⟨av, cv, k4, k5, k6⟩, k3⟩ := k
    exact ⟨d, rest, k1, ⟨av, cv, k4, RepL.cut as h.1.1 k5, RepL.cut cs h.1.2 k6⟩, DRepL.cut h.2 k3⟩
  | .mark i :: l, _, h, k => by
    simp only [dfIn, Bool.and_eq_true] at h
    have hi : i < n := by simpa [Nat.blt_eq] using h.1
    obtain ⟨d, rest, k1, ⟨k4, k5, k6⟩, k3⟩ := k
    exact ⟨d, rest, k1, ⟨by simp [Env.cut]; omega, by rw [Env.cut_T hi]; exact k5, k6⟩, DRepL.cut h.2 k3⟩
theorem inL_any {n : Nat} : ∀ m, AV.inL n (List.replicate m .any) = true
  | 0 => rfl
  | m + 1 => by rw [List.replicate_succ, AV.inL, AV.inB, inL_any m]; rfl
theorem inL_pad {n m : Nat} : ∀ {l : List AV}, AV.inL n l = true → AV.inL n (l ++ List.replicate m .any) = true
  | [], _ => inL_any m
  | a :: l, h => by
    rw [AV.inL, Bool.and_eq_true] at h
    rw [List.cons_append, AV.inL, Bool.and_eq_true]; exact ⟨h.1, inL_pad h.2⟩
theorem Sub.cut {c : Ctx} {s : St} {n : Nat} {H' : List AObj} (hH : s.H.take n = H') (h1 : slotsIn n s.sl = true) (h2 : objsIn n H' = true) (hn : c.e0.H.length ≤ H'.length) (h3 : dfIn n s.df = true := by rfl) : Sub c s { s with H := H' } := by
  intro e a hs
  have hT : ∀ i, i < H'.length → (e.cut n).T i = e.T i := fun i hi => Env.cut_T (by rw [← hH] at hi; simp at hi; omega)
  have hcl : (e.cut n).H = H' := by simp [Env.cut, hs.H, hH]
  have hlt : ∀ i, i < H'.length → i < e.H.length := fun i hi => by rw [hs.H]; rw [← hH] at hi; simp at hi; omega
  refine ⟨e.cut n, rfl, hs.size, fun t => Rep.cut _ (slotsIn_get t h1) (hs.slots t), hs.defers.cut h3, hcl, ⟨hs.ok.fresh, fun i o ho => ?_, fun i j b hi hj => hs.ok.inj i j b (hlt i (by rw [← hcl]; exact hi)) (hlt j (by rw [← hcl]; exact hj)), fun i b hi => hs.ok.live i b (hlt i (by rw [← hcl]; exact hi)), hs.ok.tabs.sub rfl fun i b hi h => ⟨i, hlt i (by rw [← hcl]; exact hi), h⟩⟩,
    ⟨hs.fr.size, hs.fr.still, hs.fr.heap, fun i b hi => hs.fr.objs i b (hlt i (by rw [← hcl]; exact hi)), ⟨by rw [hcl]; exact hn, fun i hi ht => ?_, hs.fr.le.cell, fun i m ht => ?_⟩⟩⟩
  · rw [hcl] at ho
    have hi := lt_of_get? ho
    have ho' : e.H[i]? = some o := by
      rw [hs.H]
      rw [← hH] at ho
      have hin : i < n := by rw [← hH] at hi; simp at hi; omega
      rwa [List.getElem?_take_of_lt hin] at ho
    have hk := hs.ok.objs i o ho'
    cases o with
    | cells l =>
      obtain ⟨b, cs, t, k1, k2, k3, k4, k5⟩ := hk
      exact ⟨b, cs, t, k1, k2, k3, RepL.cut l (objsIn_get h2 ho) k4, k5⟩
    | tok m => trivial
    | map es => exact hk
    | tcells t l =>
      obtain ⟨b, cs, k1, k2, k3, k4, k5⟩ := hk
      exact ⟨b, cs, k1, k2, k3, RepL.cut l (objsIn_get h2 ho) k4, k5⟩
    | pre l =>
      obtain ⟨b, cs, t, m, k1, k2, k3, k4, k5⟩ := hk
      exact ⟨b, cs, t, m, k1, k2, k3, RepL.cut _ (inL_pad (objsIn_get h2 ho)) k4, k5⟩
    | raw ob => exact hk
    | dead => trivial
  · have := hs.fr.le.obj i hi ht
    exact ⟨by rw [hT i (by omega)]; exact this.1, this.2⟩
  · obtain ⟨n', k1, k2⟩ := hs.fr.le.tok i m ht
    have hi : i < c.e0.H.length := by
      rcases Nat.lt_or_ge i c.e0.H.length with k | k
      · exact k
      · unfold Env.T at ht; rw [List.getElem?_eq_none k] at ht; simp [tokOf] at ht
    exact ⟨n', by rw [hT i (by omega)]; exact k1, k2⟩
theorem Sub.fin {c : Ctx} {s : St} {sl' : List (Nat × AV)} (n : Nat) {H' : List AObj} (h : LessS s.sl sl') (hH : s.H.take n = H') (h1 : slotsIn n sl' = true) (h2 : objsIn n H' = true) (hn : c.e0.H.length ≤ H'.length) (h3 : dfIn n s.df = true := by rfl) : Sub c s ⟨sl', H', s.df⟩ :=
  Sub.trans (Sub.slots h) (Sub.cut hH h1 h2 hn h3)
def Ent (P : Program) (f : FuncId) : Prop := ∀ args w, (callFunc f args).run P w = .ok (.enter f args) w
theorem Ent.of {P : Program} {f : FuncId} {fn : Func} {c : Code} (hf : P.funcs[f]? = some fn) (hname : (fn.name == "runtime.NumGoroutine") = false) (hb : fn.body = some c) : Ent P f := by
  intro args w
  have h1 : fn.name ≠ "runtime.NumGoroutine" := by simpa using hname
  simp [callFunc, hf, h1, hb]
inductive ARes where
  | ret (v : AV)
  | pan (v : AV)
def endRep (e : Env) : ARes → Ending → Prop
  | .ret v, x => ∃ u, x = .returned u ∧ Rep e v u
  | .pan v, x => ∃ u, x = .panicked [{ v := u, recovered := false }] ∧ Rep e v u
def ACall (P : Program) (f : FuncId) (args : List AV) (H : List AObj) (R : ARes → List AObj → Prop) : Prop :=
  ∀ e (vs : Array Value), EnvOK e → e.H = H → RepL e args vs.toList →
    CallsIn (FW none) 0 P f vs e.w fun x w' => ∃ ax e', e'.w = w' ∧ EnvOK e' ∧ Fr e e' ∧ R ax e'.H ∧ endRep e' ax x
def APure (P : Program) (f : FuncId) (args : List AV) (res : AV) : Prop :=
  ∀ e (vs : Array Value), EnvOK e → RepL e args vs.toList →
    CallsIn (FW none) 0 P f vs e.w fun x w' => ∃ u e', x = .returned u ∧ e'.w = w' ∧ Ext e e' ∧ Rep e' res u
theorem APure.of_acall {P : Program} {f : FuncId} {args : List AV} {res : AV} (hp : AV.pureL args = true) (hr : res.pureB = true)
    (h : ACall P f args [] fun x _ => ∃ v, x = .ret v ∧ Less v res) : APure P f args res := by
  intro e vs ok hs
  have ok0 : EnvOK ⟨[], fun _ => none, e.G, e.w⟩ := ⟨ok.fresh, fun i o h => by simp at h, fun i j b hi => by simp at hi, fun i b hi => by simp at hi, ok.tabs.sub rfl fun i b hi => by simp at hi⟩
  refine (h ⟨[], fun _ => none, e.G, e.w⟩ vs ok0 rfl (RepL.pure (e := e) (e' := ⟨[], fun _ => none, e.G, e.w⟩) rfl rfl args hp hs)).mono ?_
  rintro x w' ⟨ax, e1, rfl, ok1, fr, ⟨v, rfl, hl⟩, u, rfl, hu⟩
  refine ⟨u, ⟨e.H, e.μ, e1.G, e1.w⟩, rfl, rfl, ?_, Rep.pure (e := e1) (e' := ⟨e.H, e.μ, e1.G, e1.w⟩) rfl rfl res hr (hl _ _ hu)⟩
  exact ⟨rfl, fun _ _ => rfl, fr.size, fr.still, fun b hb => (fr.heap b hb (fun i hi => by simp at hi)).1, fun b hb => (fr.heap b hb (fun i hi => by simp at hi)).2, ok1.fresh⟩
theorem Fr.trans {a b c : Env} (h : Fr a b) (k : Fr b c) : Fr a c := by
  refine ⟨Nat.le_trans h.size k.size, h.still.trans k.still, fun bl hb hi => ?_, fun i bl hi hb => ?_, h.le.trans k.le⟩
  · have h1 := h.heap bl hb hi
    have h2 := k.heap bl (Nat.lt_of_lt_of_le hb h.size) (fun i hil hm => by
      rcases h.objs i bl hil hm with h3 | ⟨j, hj, h3⟩
      · omega
      · exact hi j hj h3)
    exact ⟨h2.1.trans h1.1, h2.2.trans h1.2⟩
  · rcases k.objs i bl hi hb with h1 | ⟨j, hj, h1⟩
    · exact .inl (Nat.le_trans h.size h1)
    · exact h.objs j bl hj h1
section call
variable {P : Program} {r : Option Nat} {H : List AObj} {ρ : Operand → AV}
variable {d : Option Tmp} {t : TypeId} {p : String} {af : Array Edge} {g : Option (Nat × Bool)}
theorem RepL.mapped {e : Env} {ρ : Operand → AV} {ρc : Operand → Value} : ∀ {l : List Operand}, (∀ x ∈ l, Rep e (ρ x) (ρc x)) → RepL e (l.map ρ) (l.map ρc)
  | [], _ => RepL.nil
  | x :: l, h => RepL.cons (h x (by simp)) (RepL.mapped fun y hy => h y (List.mem_cons_of_mem _ hy))
theorem run_callop {P : Program} {w : World} {x : Operand} {as : Array Operand} {ats : Array TypeId} {ρc : Operand → Value} {f : FuncId} {first cap : Array Value}
    (hx : ρc x = .func (.func f) first cap) (he : Ent P f) :
    (execOp ρc ⟨d, .call ⟨.value x, as, ats⟩, t, p, af, g⟩).run P w = .ok (.enter f (first ++ as.map ρc ++ cap)) w := by
  simp [execOp, resolve, hx, Deferred.ofValue, invoke, he (first ++ (as.map ρc ++ cap)) w]
theorem ev_call {x : Operand} {as : Array Operand} {ats : Array TypeId} {f : FuncId} {first cap args : List AV} {res : AV} (he : Ent P f) (hx : Less (ρ x) (.fn (.func f) first cap))
    (hc : APure P f args res) (ha : LessL (first ++ as.toList.map ρ ++ cap) args) : Ev P r ⟨d, .call ⟨.value x, as, ats⟩, t, p, af, g⟩ H ρ res := by
  intro e a next Q' ok hH hs hn
  have hxr := hx e _ (hs x (by simp [Op.operands, Call.operands]))
  rw [Rep] at hxr
  obtain ⟨fv, cv, hfv, h1, h2⟩ := hxr
  have h3 : RepL e (as.toList.map ρ) (as.toList.map a.eval) := RepL.mapped fun y hy => hs y (by simp [Op.operands, Call.operands]; exact .inr (by simpa using hy))
  refine ⟨about_FW _ _ _ _ _, ?_⟩
  show Oper.uponIn (FW r) 0 P _ a next Q' (((Oper.semAt r a.eval ⟨d, .call ⟨.value x, as, ats⟩, t, p, af, g⟩)).run P e.w)
  rw [semAt_of (by intro c h; cases h), run_callop hfv he]
  refine ⟨fun h => by simp [FW] at h, ?_⟩
  have := hc e (fv ++ as.map a.eval ++ cv) ok (ha.rep (by simpa using (h1.append h3).append h2))
  refine CallsIn.mono (F := FW r) (n := 0) this ?_
  rintro x w' ⟨u, e', rfl, rfl, hxt, hu⟩
  exact hn u e' hxt hu
end call
section seqcall
variable {c : Ctx} {ops : Array Oper} {Q : AExit → St → Prop} {rest : List Oper} {s : St} {i : Nat}
theorem Sim.after {e e' : Env} {a : Act} (h : Sim c s e a) (ok : EnvOK e') (fr : Fr e e') : Sim c { s with H := e'.H } e' a :=
  ⟨h.size, fun t => Rep.mono fr.le _ (h.slots t), h.defers.mono fr.le, rfl, ok, h.fr.trans fr⟩
theorem sq_call {d : Option Tmp} {t : TypeId} {p : String} {af : Array Edge} {x : Operand} {as : Array Operand} {ats : Array TypeId} {f : FuncId} {first cap args : List AV} {R : ARes → List AObj → Prop}
    (hd : dOK c.nt d = true) (he : Ent c.P f) (hx : Less (s.op x) (.fn (.func f) first cap))
    (ha : LessL (first ++ as.toList.map s.op ++ cap) args) (hc : ACall c.P f args s.H R)
    (k : ∀ v H', R (.ret v) H' → SeqWP c ops Q (i + 1) rest (St.put { s with H := H' } d v)) (kp : ∀ v H', R (.pan v) H' → Q (.panic v) { s with H := H' }) : SeqWP c ops Q i (⟨d, .call ⟨.value x, as, ats⟩, t, p, af, none⟩ :: rest) s := by
  refine sq_op fun e a hs next hn => ?_
  have hxr := hx e _ (hs.op x)
  rw [Rep] at hxr
  obtain ⟨fv, cv, hfv, h1, h2⟩ := hxr
  have h3 : RepL e (as.toList.map s.op) (as.toList.map a.eval) := RepL.mapped fun y _ => hs.op y
  refine ⟨about_FW _ _ _ _ _, ?_⟩
  show Oper.uponIn (FW c.r) 0 c.P _ a next (lift c Q) (((Oper.semAt c.r a.eval ⟨d, .call ⟨.value x, as, ats⟩, t, p, af, none⟩)).run c.P e.w)
  rw [semAt_of (by intro c h; cases h), run_callop hfv he]
  refine ⟨fun h => by simp [FW] at h, ?_⟩
  have := hc e (fv ++ as.map a.eval ++ cv) hs.ok hs.H (ha.rep (by simpa using (h1.append h3).append h2))
  refine CallsIn.mono (F := FW c.r) (n := 0) this ?_
  rintro x w' ⟨ax, e', rfl, ok', fr, hR, hend⟩
  cases ax with
  | ret v =>
    obtain ⟨u, rfl, hu⟩ := hend
    exact hn _ e' _ (k v e'.H hR) ((hs.after ok' fr).put hd hu)
  | pan v =>
    obtain ⟨u, rfl, hu⟩ := hend
    exact ⟨.panic v, _, e', kp v e'.H hR, rfl, hs.after ok' fr, u, rfl, hu⟩
end seqcall
def slotsOf : Nat → List AV → List (Nat × AV)
  | _, [] => []
  | k, a :: l => (k, a) :: slotsOf (k + 1) l
theorem get_slotsOf : ∀ (l : List AV) (k t : Nat), sget (slotsOf k l) t = if k ≤ t then (l[t - k]?).getD .any else .any
  | [], k, t => by simp [slotsOf, sget]
  | a :: l, k, t => by
    simp only [slotsOf, sget, get_slotsOf l (k + 1) t]
    cases hb : k == t with
    | true => have : k = t := by simpa using hb
              subst this; simp
    | false =>
      have hne : k ≠ t := fun h => by subst h; simp at hb
      simp only [cond_false]
      by_cases h : k ≤ t
      · rw [if_pos h, if_pos (by omega)]
        rw [show t - k = (t - (k + 1)) + 1 by omega]; simp
      · rw [if_neg h, if_neg (by omega)]
def resVar (P : Program) (s : St) : ResultVar → Option AV
  | .tmp t => some (sget s.sl t)
  | .cell a t =>
    match sget s.sl a with
    | .ptr i off =>
      match s.H[i]?, tySz P t with
      | some (.cells l), some (true, n) => if off + n ≤ l.length then some (.agg ((l.drop off).take n)) else none
      | some (.cells l), some (false, _) => l[off]?
      | _, _ => none
    | _ => none
def resAV (P : Program) (s : St) : List ResultVar → Option AV
  | [] => some (.tup [])
  | [x] => resVar P s x
  | [x, y] => match resVar P s x, resVar P s y with | some a, some b => some (.tup [a, b]) | _, _ => none
  | [x, y, z] => match resVar P s x, resVar P s y, resVar P s z with | some a, some b, some c => some (.tup [a, b, c]) | _, _, _ => none
  | [x, y, z, u] => match resVar P s x, resVar P s y, resVar P s z, resVar P s u with | some a, some b, some c, some d => some (.tup [a, b, c, d]) | _, _, _, _ => none
  | _ => none
def resOne (tmps : Array Value) : ResultVar → Sem Value
  | .tmp t => pure (tmps.getD t undef)
  | .cell a t => do loadVar t (← asAddr (tmps.getD a undef))
theorem run_resOne {c : Ctx} {s : St} {e : Env} {a : Act} (hs : Sim c s e a) {x : ResultVar} {v : AV} (h : resVar c.P s x = some v) : ∃ u, (resOne a.tmps x).run c.P e.w = .ok u e.w ∧ Rep e v u := by
  cases x with
  | tmp t => simp only [resVar, Option.some.injEq] at h; subst h; exact ⟨_, rfl, hs.slots t⟩
  | cell ad t =>
    simp only [resVar] at h
    have hp := hs.slots ad
    split at h
    · rename_i i off hg
      rw [hg, Rep] at hp
      obtain ⟨a1, a2, b, hb, hpv⟩ := hp
      split at h
      · rename_i l n hH ht
        split at h
        · rename_i hle
          simp only [Option.some.injEq] at h; subst h
          obtain ⟨b', cs, ct, k1, k2, k3, k4, k5⟩ := hs.ok.objs i _ (by rw [hs.H]; exact hH)
          rw [hb] at k1; cases k1
          have hlen := k4.length
          have hlen2 : ((cs.toList.drop off).take n).length = n := by rw [List.length_take, List.length_drop, hlen]; omega
          refine ⟨.agg ((cs.toList.drop off).take n).toArray, ?_, rep_agg_mk ((k4.drop off).take n) (fun c hc => k5 c (List.mem_of_mem_drop (List.mem_of_mem_take hc)))⟩
          have hld := run_loadVar_agg (P := c.P) (w := e.w) (t := t) (b := b) (off := off) (vs := (cs.toList.drop off).take n) (by rw [hlen2]; exact ht) (fun j v hj => by
            unfold World.cell?; simp only [k3]
            have h1 : j < n := by have := (List.getElem?_eq_some_iff.1 hj).1; rw [hlen2] at this; exact this
            rw [List.getElem?_take_of_lt h1, List.getElem?_drop] at hj
            simpa using hj)
          simp only [List.take_drop] at hld ⊢
          simp [resOne, hpv, asAddr, hld]
        · cases h
      · rename_i l n hH ht
        obtain ⟨b', cs, ct, k1, k2, k3, k4, k5⟩ := hs.ok.objs i _ (by rw [hs.H]; exact hH)
        rw [hb] at k1; cases k1
        obtain ⟨u, hu1, hu2⟩ := k4.get off v h
        refine ⟨u, ?_, hu2⟩
        have hcell : e.w.cell? ⟨b, off, none⟩ = some u := by unfold World.cell?; simp only [k3]; simpa using hu1
        simp [resOne, hpv, asAddr, run_loadVar_one ht hcell]
      · cases h
    · cases h
theorem results_eq (fn : Func) (tmps : Array Value) : results fn tmps = (do
    let vs ← fn.results.mapM (resOne tmps)
    pure (if h : vs.size = 1 then vs[0] else .tuple vs)) := by
  have h : (fun x : ResultVar => match x with | .tmp t => (pure (tmps.getD t undef) : Sem Value) | .cell a t => (do loadVar t (← asAddr (tmps.getD a undef)))) = resOne tmps := by
    funext x; cases x <;> rfl
  rw [← h]; rfl
theorem run_results {c : Ctx} {s : St} {e : Env} {a : Act} (hs : Sim c s e a) {fn : Func} {l : List ResultVar} (hl : fn.results = l.toArray) {v : AV} (h : resAV c.P s l = some v) :
    ∃ u, (results fn a.tmps).run c.P e.w = .ok u e.w ∧ Rep e v u := by
  rw [results_eq, hl]
  match l, h with
  | [], h => simp only [resAV, Option.some.injEq] at h; subst h; exact ⟨.tuple #[], by simp, by rw [Rep]; exact ⟨#[], rfl, RepL.nil⟩⟩
  | [x], h => obtain ⟨u, h1, h2⟩ := run_resOne hs h; exact ⟨u, by simp [h1], h2⟩
  | [x, y], h =>
    simp only [resAV] at h
    split at h
    · rename_i p q hp hq
      simp only [Option.some.injEq] at h; subst h
      obtain ⟨u, h1, h2⟩ := run_resOne hs hp
      obtain ⟨u', h1', h2'⟩ := run_resOne hs hq
      exact ⟨.tuple #[u, u'], by simp [h1, h1'], by rw [Rep]; exact ⟨_, rfl, RepL.cons h2 (RepL.cons h2' RepL.nil)⟩⟩
    · cases h
  | [x, y, z], h =>
    simp only [resAV] at h
    split at h
    · rename_i p q r hp hq hr
      simp only [Option.some.injEq] at h; subst h
      obtain ⟨u, h1, h2⟩ := run_resOne hs hp
      obtain ⟨u', h1', h2'⟩ := run_resOne hs hq
      obtain ⟨u'', h1'', h2''⟩ := run_resOne hs hr
      exact ⟨.tuple #[u, u', u''], by simp [h1, h1', h1''], by rw [Rep]; exact ⟨_, rfl, RepL.cons h2 (RepL.cons h2' (RepL.cons h2'' RepL.nil))⟩⟩
    · cases h
  | [x, y, z, t], h =>
    simp only [resAV] at h
    split at h
    · rename_i p q r o hp hq hr ho
      simp only [Option.some.injEq] at h; subst h
      obtain ⟨u, h1, h2⟩ := run_resOne hs hp
      obtain ⟨u', h1', h2'⟩ := run_resOne hs hq
      obtain ⟨u'', h1'', h2''⟩ := run_resOne hs hr
      obtain ⟨u3, h13, h23⟩ := run_resOne hs ho
      exact ⟨.tuple #[u, u', u'', u3], by simp [h1, h1', h1'', h13], by rw [Rep]; exact ⟨_, rfl, RepL.cons h2 (RepL.cons h2' (RepL.cons h2'' (RepL.cons h23 RepL.nil)))⟩⟩
    · cases h
  | _ :: _ :: _ :: _ :: _ :: _, h => simp [resAV] at h
def retQ (P : Program) (rs : List ResultVar) (R : ARes → List AObj → Prop) : AExit → St → Prop
  | .normal, s | .ret, s => s.df = [] ∧ ∃ v, resAV P s rs = some v ∧ R (.ret v) s.H
  | .panic v, s => s.df = [] ∧ R (.pan v) s.H
  | _, _ => False
theorem acall_of {P : Program} {f : FuncId} {fn : Func} {code : Code} {args : List AV} {H : List AObj} {R : ARes → List AObj → Prop} {rs : List ResultVar}
    (hf : P.funcs[f]? = some fn) (hb : fn.body = some code) (hrs : fn.results = rs.toArray) (hn : args.length ≤ fn.ntmps)
    (h : ∀ e0, e0.H = H → AWP ⟨P, none, fn.ntmps, e0⟩ code (retQ P rs R) ⟨slotsOf 0 args, H, []⟩) : ACall P f args H R := by
  intro e vs ok hH hs
  refine callsIn_of_wp hf hb trivial ?_
  have hlen := hs.length
  have hsz : vs.size = args.length := by simpa using hlen
  have hsim : Sim ⟨P, none, fn.ntmps, e⟩ ⟨slotsOf 0 args, H, []⟩ e { tmps := vs ++ Array.replicate (fn.ntmps - vs.size) undef, defers := [] } := by
    refine ⟨by simp; omega, fun t => ?_, rfl, hH, ok, Fr.refl e⟩
    rw [get_slotsOf]
    simp only [Nat.zero_le, if_true, Nat.sub_zero]
    cases ha : args[t]? with
    | none => simp only [Option.getD_none]; rw [Rep]; trivial
    | some a =>
      obtain ⟨u, h1, h2⟩ := hs.get t a ha
      have ht : t < vs.size := by have := (List.getElem?_eq_some_iff.1 h1).1; simpa using this
      have : (vs ++ Array.replicate (fn.ntmps - vs.size) undef).getD t undef = u := by
        rw [Array.getD_eq_getD_getElem?, Array.getElem?_append_left ht]
        have : vs[t]? = some u := by simpa using h1
        rw [this]; rfl
      rw [this]; exact h2
  refine wpIn_mono (h e hH e _ hsim) ?_
  rintro x a w ⟨ax, s, e1, hq, rfl, hs1, hx⟩
  have fin : ∀ v, resAV P s rs = some v → R (.ret v) s.H → s.df = [] → a.defers = [] ∧ ∃ u, (results fn a.tmps).run P e1.w = .ok u e1.w ∧ ∃ ax e', e'.w = e1.w ∧ EnvOK e' ∧ Fr e e' ∧ R ax e'.H ∧ endRep e' ax (.returned u) := by
    intro v hv hR hdf
    obtain ⟨u, h1, h2⟩ := run_results hs1 hrs hv
    exact ⟨hs1.defers.of_nil hdf, u, h1, .ret v, e1, rfl, hs1.ok, hs1.fr, by rw [hs1.H]; exact hR, u, rfl, h2⟩
  cases ax with
  | normal => obtain rfl : x = .normal := hx; obtain ⟨hdf, v, hv, hR⟩ := hq; exact fin v hv hR hdf
  | ret => obtain rfl : x = .ret := hx; obtain ⟨hdf, v, hv, hR⟩ := hq; exact fin v hv hR hdf
  | panic v =>
    obtain ⟨u, rfl, hu⟩ := hx; obtain ⟨hdf, hR⟩ := hq
    exact ⟨hs1.defers.of_nil hdf, .pan v, e1, rfl, hs1.ok, hs1.fr, by rw [hs1.H]; exact hR, u, rfl, hu⟩
  | exit _ => exact hq.elim
  | goto _ => exact hq.elim
theorem apure_of {P : Program} {f : FuncId} {fn : Func} {code : Code} {args : List AV} {res : AV} {rs : List ResultVar}
    (hf : P.funcs[f]? = some fn) (hb : fn.body = some code) (hrs : fn.results = rs.toArray) (hn : args.length ≤ fn.ntmps) (hp : AV.pureL args = true) (hr : res.pureB = true)
    (h : ∀ e0, e0.H = [] → AWP ⟨P, none, fn.ntmps, e0⟩ code (retQ P rs fun x _ => ∃ v, x = .ret v ∧ Less v res) ⟨slotsOf 0 args, [], []⟩) : APure P f args res :=
  APure.of_acall hp hr (acall_of hf hb hrs hn h)
theorem retQ_pure {P : Program} {rs : List ResultVar} {res v : AV} {s : St} (hd : s.df = []) (hv : resAV P s rs = some v) (hl : Less v res) :
    retQ P rs (fun x _ => ∃ v, x = .ret v ∧ Less v res) .ret s := ⟨hd, v, hv, v, rfl, hl⟩
end Go.Ab
namespace Go.Ab
variable [Tabs]
def Env.push (e : Env) (o : AObj) (ob : Obj) : Env :=
  { H := e.H ++ [o], μ := fun i => if i = e.H.length then some e.w.heap.size else e.μ i, G := e.G, w := e.w.alloc ob }
theorem alloc_heap_old (w : World) (o : Obj) {b : Nat} (h : b < w.heap.size) : (w.alloc o).heap[b]? = w.heap[b]? := by
  show (w.heap.push o)[b]? = _
  rw [Array.getElem?_push, if_neg (Nat.ne_of_lt h)]
theorem alloc_heap_new (w : World) (o : Obj) : (w.alloc o).heap[w.heap.size]? = some o := by
  show (w.heap.push o)[w.heap.size]? = _
  simp
theorem Env.push_T (e : Env) (o : AObj) (ob : Obj) {i : Nat} (h : i < e.H.length) : (e.push o ob).T i = e.T i := by
  simp [Env.T, Env.push, List.getElem?_append_left h]
theorem Env.push_le {e : Env} (ok : EnvOK e) (o : AObj) (ob : Obj) : e.Le (e.push o ob) := by
  refine ⟨by simp [Env.push], fun i hi ht => ⟨by rw [Env.push_T _ _ _ hi]; exact ht, fun _ hb => by simpa [Env.push, Nat.ne_of_lt hi] using hb⟩, fun b off ho => ⟨ho, cell?_of_heap (alloc_heap_old _ _ (G_lt ok.fresh ho))⟩, fun i n ht => ?_⟩
  have hi : i < e.H.length := by
    rcases Nat.lt_or_ge i e.H.length with k | k
    · exact k
    · unfold Env.T at ht; rw [List.getElem?_eq_none k] at ht; simp [tokOf] at ht
  refine ⟨n, by rw [Env.push_T _ _ _ hi]; exact ht, Nat.le_refl _, fun _ => ⟨by simp [Env.push, Nat.ne_of_lt hi], fun b cs t hm hh => ⟨rfl, cs, ?_, rfl⟩⟩⟩
  exact (alloc_heap_old _ _ (ok.live i b hi hm)).trans hh
theorem ObjSim.mono {e e' : Env} (h : e.Le e') {i : Nat} {o : AObj} (k : ObjSim e i o) (hm : e'.μ i = e.μ i)
    (hb : ∀ b, e.μ i = some b → e'.w.heap[b]? = e.w.heap[b]? ∧ e'.G b = e.G b) : ObjSim e' i o := by
  cases o with
  | cells l =>
    obtain ⟨b, cs, t, h1, h2, h3, h4, h5⟩ := k
    exact ⟨b, cs, t, hm.trans h1, (hb b h1).2.trans h2, (hb b h1).1.trans h3, RepL.mono h l h4, h5⟩
  | tok n => trivial
  | map es => obtain ⟨b, en, cl, h1, h2, h3⟩ := k; exact ⟨b, en, cl, hm.trans h1, (hb b h1).1.trans h2, h3⟩
  | tcells t l =>
    obtain ⟨b, cs, h1, h2, h3, h4, h5⟩ := k
    exact ⟨b, cs, hm.trans h1, (hb b h1).2.trans h2, (hb b h1).1.trans h3, RepL.mono h l h4, h5⟩
  | pre l =>
    obtain ⟨b, cs, t, m, h1, h2, h3, h4, h5⟩ := k
    exact ⟨b, cs, t, m, hm.trans h1, (hb b h1).2.trans h2, (hb b h1).1.trans h3, RepL.mono h _ h4, h5⟩
  | raw o => obtain ⟨b, h1, h2, h3⟩ := k; exact ⟨b, hm.trans h1, (hb b h1).1.trans h2, (hb b h1).2.trans h3⟩
  | dead => trivial
theorem Env.push_ok {e : Env} (ok : EnvOK e) {o : AObj} {ob : Obj} (ho : ObjSim (e.push o ob) e.H.length o) : EnvOK (e.push o ob) := by
  refine ⟨fun b hb => ok.fresh b (by have : b ≥ e.w.heap.size + 1 := by simpa [Env.push] using hb
                                     omega), fun i x hx => ?_, fun i j b hi hj h1 h2 => ?_, fun i b hi h1 => ?_, ok.tabs.of (by simp [Env.push]) (fun b hb _ => alloc_heap_old _ _ hb) fun i b hi h1 => ?_⟩
  · rcases Nat.lt_or_ge i e.H.length with h | h
    · have hx' : e.H[i]? = some x := by simpa [Env.push, List.getElem?_append_left h] using hx
      exact ObjSim.mono (Env.push_le ok o ob) (ok.objs i x hx') (by simp [Env.push, Nat.ne_of_lt h]) (fun b hb => ⟨alloc_heap_old _ _ (ok.live i b h hb), rfl⟩)
    · have hi : i = e.H.length := by
        have := lt_of_get? hx
        simp [Env.push] at this; omega
      subst hi
      have : x = o := by simpa [Env.push] using hx.symm
      subst this; exact ho
  · have hi' : i < e.H.length + 1 := by simpa [Env.push] using hi
    have hj' : j < e.H.length + 1 := by simpa [Env.push] using hj
    simp only [Env.push] at h1 h2
    by_cases e1 : i = e.H.length <;> by_cases e2 : j = e.H.length
    · omega
    · rw [if_pos e1] at h1; rw [if_neg e2] at h2
      have := ok.live j b (by omega) h2; simp at h1; omega
    · rw [if_neg e1] at h1; rw [if_pos e2] at h2
      have := ok.live i b (by omega) h1; simp at h2; omega
    · rw [if_neg e1] at h1; rw [if_neg e2] at h2
      exact ok.inj i j b (by omega) (by omega) h1 h2
  · have hi' : i < e.H.length + 1 := by simpa [Env.push] using hi
    simp only [Env.push] at h1 ⊢
    by_cases e1 : i = e.H.length
    · rw [if_pos e1] at h1; simp at h1; simp; omega
    · rw [if_neg e1] at h1; have := ok.live i b (by omega) h1; simp; omega
  · have hi' : i < e.H.length + 1 := by simpa [Env.push] using hi
    simp only [Env.push] at h1
    by_cases e1 : i = e.H.length
    · rw [if_pos e1] at h1; simp at h1; left; omega
    · rw [if_neg e1] at h1; right; exact ⟨i, by omega, h1⟩
theorem Fr.push {e0 e : Env} (h : Fr e0 e) (ok : EnvOK e) (o : AObj) (ob : Obj) : Fr e0 (e.push o ob) := by
  refine ⟨by have := h.size; simp [Env.push]; omega, h.still.trans ⟨rfl, rfl⟩, fun b hb hi => ?_, fun i b hi hb => ?_, h.le.trans (Env.push_le ok o ob)⟩
  · obtain ⟨h1, h2⟩ := h.heap b hb hi
    exact ⟨(alloc_heap_old _ _ (Nat.lt_of_lt_of_le hb h.size)).trans h1, h2⟩
  · have hi' : i < e.H.length + 1 := by simpa [Env.push] using hi
    simp only [Env.push] at hb
    by_cases e1 : i = e.H.length
    · rw [if_pos e1] at hb; have := h.size; simp at hb; left; omega
    · rw [if_neg e1] at hb; exact h.objs i b (by omega) hb
theorem Sim.push {c : Ctx} {s : St} {e : Env} {a : Act} (h : Sim c s e a) {o : AObj} {ob : Obj} (ho : ObjSim (e.push o ob) e.H.length o) : Sim c { s with H := s.H ++ [o] } (e.push o ob) a :=
  ⟨h.size, fun t => Rep.mono (Env.push_le h.ok o ob) _ (h.slots t), h.defers.mono (Env.push_le h.ok o ob), by simp [Env.push, h.H], Env.push_ok h.ok ho, h.fr.push h.ok o ob⟩
theorem push_cells {e : Env} (ok : EnvOK e) {l : List AV} {cs : Array Value} {t : TypeId} (h : RepL e l cs.toList) (h1 : ∀ c ∈ cs.toList, isCell c = true) :
    ObjSim (e.push (.cells l) (.cells cs t)) e.H.length (.cells l) :=
  ⟨e.w.heap.size, cs, t, by simp [Env.push], ok.fresh _ (Nat.le_refl _), alloc_heap_new _ _, RepL.mono (Env.push_le ok _ _) l h, h1⟩
def AV.cells : AV → Option (List AV)
  | .agg l => some l
  | .any | .tup _ | .cnd _ _ | .uptr _ _ => none
  | .raw (.agg _) | .raw (.tuple _) => none
  | a => some [a]
theorem rep_cells {e : Env} {a : AV} {v : Value} {l : List AV} (h : Rep e a v) (hl : a.cells = some l) : RepL e l v.cells.toList ∧ (∀ c ∈ v.cells.toList, isCell c = true) := by
  have one : ∀ (a : AV) (v : Value), Rep e a v → isCell v = true → v.cells = #[v] → a.cells = some l → l = [a] → RepL e l v.cells.toList ∧ (∀ c ∈ v.cells.toList, isCell c = true) := by
    intro a v h hc hv _ hl
    subst hl; rw [hv]; exact ⟨RepL.cons h RepL.nil, by simpa using hc⟩
  cases a with
  | agg m => simp only [AV.cells, Option.some.injEq] at hl; subst hl; rw [Rep] at h; obtain ⟨cs, rfl, h2, h3⟩ := h; exact ⟨h2, h3⟩
  | any => cases hl
  | tup m => cases hl
  | cnd b m => cases hl
  | raw u =>
    have h' := h
    rw [Rep] at h'; subst h'
    cases v <;> first | (cases hl; done) | (refine one _ _ h rfl rfl hl ?_; simpa [AV.cells] using hl.symm)
  | ptr i off => have h' := h; rw [Rep] at h'; obtain ⟨_, _, b, _, rfl⟩ := h'; exact one _ _ h rfl rfl hl (by simpa [AV.cells] using hl.symm)
  | iptr m => have h' := h; rw [Rep] at h'; obtain ⟨b, off, rfl, _⟩ := h'; exact one _ _ h rfl rfl hl (by simpa [AV.cells] using hl.symm)
  | sl sz es => have h' := h; rw [Rep] at h'; obtain ⟨a, len, cap, rfl, _⟩ := h'; exact one _ _ h rfl rfl hl (by simpa [AV.cells] using hl.symm)
  | slx sz es => have h' := h; rw [Rep] at h'; obtain ⟨a, len, rfl, _⟩ := h'; exact one _ _ h rfl rfl hl (by simpa [AV.cells] using hl.symm)
  | own i sz es => have h' := h; rw [Rep] at h'; obtain ⟨a, len, cap, rfl, _⟩ := h'; exact one _ _ h rfl rfl hl (by simpa [AV.cells] using hl.symm)
  | msl i off len cap => have h' := h; rw [Rep] at h'; obtain ⟨_, _, b, _, rfl, _⟩ := h'; exact one _ _ h rfl rfl hl (by simpa [AV.cells] using hl.symm)
  | ownb i sz t es => have h' := h; rw [Rep] at h'; obtain ⟨a, len, cap, rfl, _⟩ := h'; exact one _ _ h rfl rfl hl (by simpa [AV.cells] using hl.symm)
  | uptr i n => cases hl
  | mslp i off len => have h' := h; rw [Rep] at h'; obtain ⟨_, _, b, cap, _, rfl, _⟩ := h'; exact one _ _ h rfl rfl hl (by simpa [AV.cells] using hl.symm)
  | fn f x y => have h' := h; rw [Rep] at h'; obtain ⟨p, q, rfl, _⟩ := h'; exact one _ _ h rfl rfl hl (by simpa [AV.cells] using hl.symm)
  | ifc t m => have h' := h; rw [Rep] at h'; obtain ⟨x, rfl, _⟩ := h'; exact one _ _ h rfl rfl hl (by simpa [AV.cells] using hl.symm)
  | mp i => have h' := h; rw [Rep] at h'; obtain ⟨_, _, b, _, rfl⟩ := h'; exact one _ _ h rfl rfl hl (by simpa [AV.cells] using hl.symm)
def zeroOf (P : Program) (t : TypeId) : Option (List AV) :=
  match P.info? t with
  | some i =>
    match i.zero with
    | some v => bif v.cells.toList.all isCell then some (v.cells.toList.map .raw) else none
    | none => none
  | none => none
section seq
variable {c : Ctx} {ops : Array Oper} {Q : AExit → St → Prop} {rest : List Oper} {s : St} {i : Nat}
variable {d : Option Tmp} {t : TypeId} {p : String} {af : Array Edge}
theorem sq_run {op : Op} (hnd : ∀ c, op ≠ .defer c) (hd : dOK c.nt d = true) {H' : List AObj} {v : AV}
    (h : ∀ e a, Sim c s e a → ∃ u e', (execOp a.eval ⟨d, op, t, p, af, none⟩).run c.P e.w = .ok (.value u) e'.w ∧ Sim c { s with H := H' } e' a ∧ Rep e' v u)
    (k : SeqWP c ops Q (i + 1) rest (St.put { s with H := H' } d v)) : SeqWP c ops Q i (⟨d, op, t, p, af, none⟩ :: rest) s := by
  refine sq_op fun e a hs next hn => ?_
  obtain ⟨u, e', hr, hs', hu⟩ := h e a hs
  refine ⟨about_FW _ _ _ _ _, ?_⟩
  show Oper.uponIn (FW c.r) 0 c.P _ a next (lift c Q) ((Oper.semAt c.r a.eval ⟨d, op, t, p, af, none⟩).run c.P e.w)
  rw [semAt_of hnd, hr]
  exact hn _ e' _ k (hs'.put hd hu)
theorem run_newVar (P : Program) (w : World) (t : TypeId) (v : Value) : (newVar t v).run P w = .ok ⟨w.heap.size, 0, none⟩ (w.alloc (.cells v.cells t)) := by
  simp [newVar, newRow]
theorem sq_box {bt : TypeId} {x : Operand} {a : AV} {l : List AV} (hd : dOK c.nt d = true) (hx : Less (s.op x) a) (hl : a.cells = some l)
    (k : SeqWP c ops Q (i + 1) rest (St.put { s with H := s.H ++ [.cells l] } d (.ptr s.H.length 0))) : SeqWP c ops Q i (⟨d, .box bt x, t, p, af, none⟩ :: rest) s :=
  sq_run (by intro c h; cases h) hd (fun e ac hs => by
    obtain ⟨h1, h2⟩ := rep_cells (hx e _ (hs.op x)) hl
    refine ⟨.pointer (some ⟨e.w.heap.size, 0, none⟩), e.push (.cells l) (.cells (ac.eval x).cells bt), ?_, hs.push (push_cells hs.ok h1 h2), ?_⟩
    · simp [execOp, Instr.box, run_newVar, Env.push]
    · have hT : tokOf ((s.H ++ [AObj.cells l])[s.H.length]?) = none := by simp [tokOf]
      rw [Rep]; simp only [Env.push, Env.T, hs.H]
      exact ⟨by simp, hT, e.w.heap.size, by simp, rfl⟩) k
theorem sq_alloc {bt : TypeId} {l : List AV} (hd : dOK c.nt d = true) (hz : zeroOf c.P bt = some l)
    (k : SeqWP c ops Q (i + 1) rest (St.put { s with H := s.H ++ [.cells l] } d (.ptr s.H.length 0))) : SeqWP c ops Q i (⟨d, .alloc bt, t, p, af, none⟩ :: rest) s := by
  unfold zeroOf at hz
  split at hz
  · rename_i ti hti
    split at hz
    · rename_i z hzv
      cases hall : z.cells.toList.all isCell with
      | false => rw [hall] at hz; cases hz
      | true =>
        rw [hall] at hz
        simp only [cond_true, Option.some.injEq] at hz
        subst hz
        refine sq_run (by intro c h; cases h) hd (fun e ac hs => ?_) k
        have hzr : (zeroValue bt).run c.P e.w = .ok z e.w := by simp [zeroValue, run_info hti, hzv]
        refine ⟨.pointer (some ⟨e.w.heap.size, 0, none⟩), e.push (.cells (z.cells.toList.map .raw)) (.cells z.cells bt), ?_, hs.push (push_cells hs.ok (RepL.raws _) (List.all_eq_true.1 hall)), ?_⟩
        · simp [execOp, Instr.alloc, hzr, run_newVar, Env.push]
        · have hT : tokOf ((s.H ++ [AObj.cells (z.cells.toList.map .raw)])[s.H.length]?) = none := by simp [tokOf]
          rw [Rep]; simp only [Env.push, Env.T, hs.H]
          exact ⟨by simp, hT, e.w.heap.size, by simp, rfl⟩
    · cases hz
  · cases hz
def Env.setObj (e : Env) (i b : Nat) (l : List AV) (cs : Array Value) : Env := { e with H := e.H.set i (.cells l), w := e.w.setRow b cs }
theorem Env.setObj_T {e : Env} {i b : Nat} {l l0 : List AV} {cs : Array Value} (h : e.H[i]? = some (.cells l0)) (j : Nat) : (e.setObj i b l cs).T j = e.T j := by
  unfold Env.T Env.setObj
  by_cases hj : i = j
  · subst hj
    simp only [List.getElem?_set_self (lt_of_get? h), h, tokOf]
  · simp only [List.getElem?_set_ne hj]
theorem Env.setObj_le {e : Env} (ok : EnvOK e) {i b : Nat} {l l0 : List AV} {cs : Array Value} (h : e.H[i]? = some (.cells l0)) (hb : e.μ i = some b) (hg : e.G b = 0) : e.Le (e.setObj i b l cs) := by
  have hi := lt_of_get? h
  refine ⟨by simp [Env.setObj], fun j _ ht => ⟨by rw [Env.setObj_T h]; exact ht, fun _ hb => hb⟩, fun b' off ho => ⟨ho, ?_⟩, fun j n ht => ⟨n, by rw [Env.setObj_T h]; exact ht, Nat.le_refl _, fun _ => ⟨rfl, fun b' cs' t hm hh => ⟨rfl, cs', ?_, rfl⟩⟩⟩⟩
  · have hne : b' ≠ b := fun e1 => by subst e1; rw [hg] at ho; omega
    exact cell?_of_heap (setRow_other _ _ _ _ hne)
  · have hj : j < e.H.length := by
      rcases Nat.lt_or_ge j e.H.length with k | k
      · exact k
      · unfold Env.T at ht; rw [List.getElem?_eq_none k] at ht; simp [tokOf] at ht
    have hne : b' ≠ b := fun e1 => by
      subst e1
      have := ok.inj i j b' hi hj hb hm
      subst this
      unfold Env.T at ht; rw [h] at ht; simp [tokOf] at ht
    exact (setRow_other _ _ _ _ hne).trans hh
theorem Sim.setObj {e : Env} {a : Act} (hs : Sim c s e a) {i b : Nat} {l l0 : List AV} {cs cs0 : Array Value} {ct : TypeId} (h : s.H[i]? = some (.cells l0)) (hb : e.μ i = some b) (hg : e.G b = 0)
    (hh : e.w.heap[b]? = some (.cells cs0 ct (0, 0))) (hl : RepL e l cs.toList) (h1 : ∀ c ∈ cs.toList, isCell c = true) : Sim c { s with H := s.H.set i (.cells l) } (e.setObj i b l cs) a := by
  have h' : e.H[i]? = some (.cells l0) := by rw [hs.H]; exact h
  have hi := lt_of_get? h'
  have le := Env.setObj_le hs.ok (l := l) (cs := cs) h' hb hg
  refine ⟨hs.size, fun t => Rep.mono le _ (hs.slots t), hs.defers.mono le, by simp [Env.setObj, hs.H], ⟨fun b' hb' => hs.ok.fresh b' (by simpa [Env.setObj] using hb'), fun j o ho => ?_, fun j k b' hj hk => hs.ok.inj j k b' (by simpa [Env.setObj] using hj) (by simpa [Env.setObj] using hk), fun j b' hj hm => by
    have := hs.ok.live j b' (by simpa [Env.setObj] using hj) hm; simpa [Env.setObj] using this,
    hs.ok.tabs.of (by simp [Env.setObj]) (fun b' _ hn => setRow_other _ _ _ _ fun e1 => by subst e1; exact hn i hi hb) fun j b' hj hm => .inr ⟨j, by simpa [Env.setObj] using hj, hm⟩⟩, ⟨by simpa [Env.setObj] using hs.fr.size, hs.fr.still.trans ⟨rfl, rfl⟩, fun b' hb' hn => ?_, fun j b' hj hm => hs.fr.objs j b' (by simpa [Env.setObj] using hj) hm, hs.fr.le.trans le⟩⟩
  · by_cases hj : i = j
    · subst hj
      simp only [Env.setObj, List.getElem?_set_self hi, Option.some.injEq] at ho
      subst ho
      exact ⟨b, cs, ct, hb, hg, setRow_heap _ _ _ _ _ _ hh, RepL.mono le l hl, h1⟩
    · simp only [Env.setObj, List.getElem?_set_ne hj] at ho
      refine ObjSim.mono le (hs.ok.objs j o ho) rfl (fun b' hb' => ⟨setRow_other _ _ _ _ ?_, rfl⟩)
      intro e1; subst e1
      exact hj (hs.ok.inj i j b' hi (lt_of_get? ho) hb hb')
  · obtain ⟨h2, h3⟩ := hs.fr.heap b' hb' hn
    have hne : b' ≠ b := fun e1 => by
      subst e1
      rcases hs.fr.objs i b' hi hb with h4 | ⟨j, hj, h4⟩
      · omega
      · exact hn j hj h4
    exact ⟨(setRow_other _ _ _ _ hne).trans h2, h3⟩
theorem RepL.splice {e : Env} {l m : List AV} {vs us : List Value} (h : RepL e l vs) (k : RepL e m us) (o : Nat) : RepL e (l.take o ++ m ++ l.drop (o + m.length)) (vs.take o ++ us ++ vs.drop (o + us.length)) := by
  rw [k.length]; exact ((h.take o).append k).append (h.drop _)
theorem run_storeVar {P : Program} {w : World} {b off n : Nat} {st ct : TypeId} {bb : Bool} {v : Value} {cs : Array Value} (hh : w.heap[b]? = some (.cells cs ct (0, 0))) (ht : tySz P st = some (bb, n))
    (hn : v.cells.size = n) (hle : off + n ≤ cs.size) (h1 : ∀ c ∈ v.cells.toList, isCell c = true) :
    (storeVar st ⟨b, off, none⟩ v).run P w = .ok () (w.setRow b (cs.toList.take off ++ v.cells.toList ++ cs.toList.drop (off + v.cells.toList.length)).toArray) := by
  have h2 := (run_tyAgg (w := w) ht).2
  have h3 := run_storeCells_at (P := P) b off ct v.cells.toList 0 cs w hh (by simpa [hn] using hle) h1
  simp only [Nat.add_zero] at h3
  simp [storeVar, h2, hn, h3]
theorem sq_store {st : TypeId} {x y : Operand} {a : AV} {j off n : Nat} {bb : Bool} {l m : List AV} (hd : dOK c.nt d = true)
    (hx : Less (s.op x) (.ptr j off)) (hy : Less (s.op y) a) (hm : a.cells = some m) (hj : s.H[j]? = some (.cells l)) (ht : tySz c.P st = some (bb, n)) (hn : Nat.beq m.length n = true) (hle : Nat.ble (off + n) l.length = true)
    (k : SeqWP c ops Q (i + 1) rest (St.put { s with H := s.H.set j (.cells (l.take off ++ m ++ l.drop (off + m.length))) } d .any)) : SeqWP c ops Q i (⟨d, .store st x y, t, p, af, none⟩ :: rest) s := by
  refine sq_op fun e ac hs next hn' => ?_
  have hn := Nat.eq_of_beq_eq_true hn
  have hle := Nat.le_of_ble_eq_true hle
  obtain ⟨h1, h2⟩ := rep_cells (hy e _ (hs.op y)) hm
  have hp := hx e _ (hs.op x)
  rw [Rep] at hp
  obtain ⟨a1, a2, b, hb, hpv⟩ := hp
  obtain ⟨b', cs, ct, k1, k2, k3, k4, k5⟩ := hs.ok.objs j _ (by rw [hs.H]; exact hj)
  rw [hb] at k1; cases k1
  have hl1 := h1.length
  have hl4 := k4.length
  have hrun := run_storeVar (P := c.P) (w := e.w) (off := off) (v := ac.eval y) k3 ht (by simpa [hn] using hl1) (by simp at hl4; omega) h2
  have hsim := hs.setObj (l := l.take off ++ m ++ l.drop (off + m.length)) (cs := (cs.toList.take off ++ (ac.eval y).cells.toList ++ cs.toList.drop (off + (ac.eval y).cells.toList.length)).toArray) hj hb k2 k3
    (by simpa using RepL.splice k4 h1 off) (by
      intro z hz
      simp only [List.mem_append] at hz
      rcases hz with (hz | hz) | hz
      · exact k5 z (List.mem_of_mem_take hz)
      · exact h2 z hz
      · exact k5 z (List.mem_of_mem_drop hz))
  refine ⟨about_FW _ _ _ _ _, ?_⟩
  show Oper.uponIn (FW c.r) 0 c.P _ ac next (lift c Q) (((Oper.semAt c.r ac.eval ⟨d, .store st x y, t, p, af, none⟩)).run c.P e.w)
  rw [semAt_of (by intro c h; cases h)]
  have : (execOp ac.eval ⟨d, .store st x y, t, p, af, none⟩).run c.P e.w = .ok .skip (e.w.setRow b (cs.toList.take off ++ (ac.eval y).cells.toList ++ cs.toList.drop (off + (ac.eval y).cells.toList.length)).toArray) := by
    simp [execOp, Instr.storeAt, hpv, Instr.sureAddr, hrun]
  rw [this]
  exact hn' _ _ _ k (hsim.put hd (by rw [Rep]; trivial))
end seq
end Go.Ab
namespace Go.Ab
variable [Tabs]
def slInfo (P : Program) (t : TypeId) : Option (TypeId × TypeInfo) :=
  match P.underlying t with
  | some (.slice e) =>
    match P.info? e with
    | some i => some (e, i)
    | none => none
  | _ => none
structure SlFact (P : Program) (t e : TypeId) (sz bytes : Nat) : Prop where
  ex : ∃ i z, P.underlying t = some (.slice e) ∧ P.info? e = some i ∧ i.size = sz ∧ i.bytes = bytes ∧ i.zero = some z ∧ z.cells.toList.all isCell = true ∧ z.cells.size = sz
def slFactB (P : Program) (t e : TypeId) (sz bytes : Nat) : Bool :=
  match P.underlying t with
  | some (.slice e') =>
    match P.info? e with
    | some i =>
      match i.zero with
      | some z => Nat.beq e e' && Nat.beq i.size sz && Nat.beq i.bytes bytes && z.cells.toList.all isCell && Nat.beq z.cells.size sz
      | none => false
    | none => false
  | _ => false
theorem SlFact.of {P : Program} {t e : TypeId} {sz bytes : Nat} (h : slFactB P t e sz bytes = true) : SlFact P t e sz bytes := by
  unfold slFactB at h
  split at h
  · rename_i e' he
    split at h
    · rename_i i hi
      split at h
      · rename_i z hz
        simp only [Bool.and_eq_true] at h
        obtain ⟨⟨⟨⟨h1, h2⟩, h3⟩, h4⟩, h5⟩ := h
        have e1 := Nat.eq_of_beq_eq_true h1
        subst e1
        exact ⟨i, z, he, hi, Nat.eq_of_beq_eq_true h2, Nat.eq_of_beq_eq_true h3, hz, h4, Nat.eq_of_beq_eq_true h5⟩
      · cases h
    · cases h
  · cases h
section ops
variable {P : Program} {r : Option Nat} {H : List AObj} {ρ : Operand → AV}
variable {d : Option Tmp} {t : TypeId} {p : String} {af : Array Edge} {g : Option (Nat × Bool)}
variable {x y z : Operand}
theorem ev_len {xt et : TypeId} {sz : Nat} {es : List (List AV)} {n : Int} (ht : slElem P xt = some (et, sz)) (hx : Less (ρ x) (.sl sz es)) (hn : (es.length : Int) = n) :
    Ev P r ⟨d, .call ⟨.builtin .len, #[x], #[xt]⟩, t, p, af, g⟩ H ρ (.raw (.int .i64 n)) :=
  Ev.pure (by intro c h; cases h) fun e ρc ok hE hs => by
    obtain ⟨h1, _⟩ := slElem_und ht
    have := hx e _ (hs x (by simp [Op.operands, Call.operands]))
    rw [Rep] at this
    obtain ⟨a, len, cap, hv, rfl, _⟩ := this
    exact ⟨.int .i64 n, by subst hn; simp [execOp, resolve, invoke, builtin, Builtin.len_, run_und h1, hv, goInt], by rw [Rep]⟩
theorem ev_len_map {α : Type} {xt et : TypeId} {sz : Nat} {xs : List α} {f : α → List AV} (ht : slElem P xt = some (et, sz)) (hx : Less (ρ x) (.sl sz (xs.map f))) :
    Ev P r ⟨d, .call ⟨.builtin .len, #[x], #[xt]⟩, t, p, af, g⟩ H ρ (.raw (.int .i64 (xs.length : Int))) := ev_len ht hx (by simp)
theorem ev_len_msl {xt et : TypeId} {sz i off len cap : Nat} (ht : slElem P xt = some (et, sz)) (hx : Less (ρ x) (.msl i off len cap)) :
    Ev P r ⟨d, .call ⟨.builtin .len, #[x], #[xt]⟩, t, p, af, g⟩ H ρ (.raw (.int .i64 len)) :=
  Ev.pure (by intro c h; cases h) fun e ρc ok hE hs => by
    obtain ⟨h1, _⟩ := slElem_und ht
    have := hx e _ (hs x (by simp [Op.operands, Call.operands]))
    rw [Rep] at this
    obtain ⟨_, _, b, _, hv, _⟩ := this
    exact ⟨.int .i64 len, by simp [execOp, resolve, invoke, builtin, Builtin.len_, run_und h1, hv, goInt], by rw [Rep]⟩
theorem ev_slice {xt et : TypeId} {sz lo hi : Nat} {es : List (List AV)} {ol oh : Option Operand} (ht : slElem P xt = some (et, sz)) (hx : Less (ρ x) (.sl sz es))
    (hl : match ol with | none => lo = 0 | some q => Less (ρ q) (.raw (.int .i64 (lo : Int)))) (hh : match oh with | none => hi = es.length | some q => Less (ρ q) (.raw (.int .i64 (hi : Int)))) (h1 : lo ≤ hi) (h2 : hi ≤ es.length) :
    Ev P r ⟨d, .slice xt x ol oh none, t, p, af, g⟩ H ρ (.sl sz ((es.take hi).drop lo)) :=
  Ev.pure (by intro c h; cases h) fun e ρc ok hE hs => by
    obtain ⟨k1, ti, k2, rfl⟩ := slElem_und ht
    have := hx e _ (hs x (by cases ol <;> cases oh <;> simp [Op.operands]))
    rw [Rep] at this
    obtain ⟨a, len, cap, hv, rfl, hle, hnil, hsz, hc⟩ := this
    have hlo : ∀ q, ol = some q → ρc q = .int .i64 (lo : Int) := fun q hq => by
      subst hq; exact rep_raw hl (hs q (by cases oh <;> simp [Op.operands]))
    have hhi : ∀ q, oh = some q → ρc q = .int .i64 (hi : Int) := fun q hq => by
      subst hq; exact rep_raw hh (hs q (by cases ol <;> simp [Op.operands]))
    have hL : ol = none → lo = 0 := fun h => by subst h; exact hl
    have hH : oh = none → hi = es.length := fun h => by subst h; exact hh
    have hb : (Instr.sliceBounds true es.length cap (ol.map ρc) (oh.map ρc) none).run P e.w = .ok (lo, hi, cap) e.w := by
      cases ol with
      | none =>
        obtain rfl := hL rfl
        cases oh with
        | none => obtain rfl := hH rfl; simp [Instr.sliceBounds]
        | some q' =>
          have : hi ≤ cap := Nat.le_trans h2 hle
          simp [Instr.sliceBounds, Instr.sliceBound, hhi q' rfl, asIntOf, this]
      | some q =>
        cases oh with
        | none => obtain rfl := hH rfl; simp [Instr.sliceBounds, Instr.sliceBound, hlo q rfl, asIntOf, h1]
        | some q' =>
          have : hi ≤ cap := Nat.le_trans h2 hle
          simp [Instr.sliceBounds, Instr.sliceBound, hlo q rfl, hhi q' rfl, asIntOf, this, h1]
    refine ⟨.slice (if cap = lo then a else a.map (·.add (lo * ti.size))) (hi - lo) (cap - lo), ?_, ?_⟩
    · simp [execOp, Instr.sliceAt, Instr.slice, run_und k1, hv, hb, run_size k2]
    · rw [Rep]
      refine ⟨_, _, _, rfl, by simp; omega, by omega, ?_, fun c hc' => hsz c (List.mem_of_mem_take (List.mem_of_mem_drop hc')), ?_⟩
      · intro hn
        by_cases hcl : cap = lo
        · omega
        · rw [if_neg hcl] at hn
          cases a with
          | none => have := hnil rfl; omega
          | some ad => cases hn
      · intro ad had
        by_cases hcl : cap = lo
        · rw [if_pos hcl] at had
          obtain ⟨q1, q2⟩ := hc ad had
          have hlohi : hi = lo := by omega
          have : (es.take hi).drop lo = [] := by apply List.drop_eq_nil_of_le; simp; omega
          rw [this, ElemsAt]; exact ⟨fun h => absurd (by omega) h, trivial⟩
        · rw [if_neg hcl] at had
          cases a with
          | none => cases had
          | some ad0 =>
            obtain ⟨q1, q2⟩ := hc ad0 rfl
            obtain ⟨b, off, sp⟩ := ad0
            have q1 := q1 (by omega)
            simp only at q1; subst q1
            simp only [Option.map_some, Option.some.injEq, Addr.add_lit] at had
            subst had
            exact ⟨fun _ => rfl, (q2.take hi).drop lo (fun c hc' => hsz c (List.mem_of_mem_take hc')) (by simp; omega)⟩
theorem src_of {e : Env} {sz : Nat} {es : List (List AV)} {v : Value} {xt et : TypeId} (hk : P.underlying xt = some (.slice et)) (h : Rep e (.sl sz es) v) :
    ∃ news, Src P sz xt v es.length news e.w ∧ RepL e es.flatten news := by
  rw [Rep] at h
  obtain ⟨a, len, cap, rfl, rfl, hle, hnil, hsz, hc⟩ := h
  have hfl : es.flatten.length = es.length * sz := by
    clear hc hle hnil
    induction es with
    | nil => simp
    | cons c es ih =>
      simp only [List.flatten_cons, List.length_append, List.length_cons]
      rw [ih (fun q hq => hsz q (List.mem_cons_of_mem _ hq)), hsz c (by simp), Nat.add_mul]; omega
  cases a with
  | none =>
    have h0 := hnil rfl
    have hes : es = [] := List.length_eq_zero_iff.1 (by omega)
    subst hes; subst h0
    exact ⟨[], Src.ofNil e.w hk 0, RepL.nil⟩
  | some ad =>
    obtain ⟨hsp, hel⟩ := hc ad rfl
    obtain ⟨b, off, sp⟩ := ad
    by_cases hes : es = []
    · subst hes
      exact ⟨[], Src.ofSlice e.w hk ⟨b, off, sp⟩ _ _ [] (by simp) (fun j u hj => by simp at hj) (by simp), RepL.nil⟩
    have hsp := hsp (by have := List.length_pos_iff.2 hes; omega)
    simp only at hsp; subst hsp
    obtain ⟨vs, h1, h2, h3⟩ := (ElemsAt.flat.1 hel).values
    refine ⟨vs, Src.ofSlice e.w hk ⟨b, off, none⟩ _ _ vs (by rw [h1.length, hfl]) (fun j u hj => by rw [Addr.add_lit]; exact h3 j u hj) h2, h1⟩
theorem grownCap_le (w : World) (need old : Nat) (e : TypeId) : need ≤ grownCap w need old e := by
  unfold grownCap Question.cut; simp
theorem zeroCells_cell {z : Array Value} (h : z.toList.all isCell = true) (n : Nat) : ∀ v ∈ (Builtin.zeroCells z n).toList, isCell v = true := by
  intro v hv
  unfold Builtin.zeroCells at hv
  simp only [Array.toList_map, List.mem_map, Array.toList_range, List.mem_range] at hv
  obtain ⟨i, hi, rfl⟩ := hv
  have hz : 0 < z.size := by
    rcases Nat.eq_zero_or_pos z.size with h0 | h0
    · rw [h0] at hi; simp at hi
    · exact h0
  have hlt : i % z.size < z.size := Nat.mod_lt _ hz
  rw [getElem!_pos z (i % z.size) hlt]
  exact List.all_eq_true.1 h _ (by simp)
def Env.row (e : Env) (n : Nat) (w' : World) : Env := { e with G := fun b => if b = e.w.heap.size then n else e.G b, w := w' }
theorem Env.row_ext {e : Env} (ok : EnvOK e) {n : Nat} {w' : World} {ob : Obj} (hw : w'.heap = e.w.heap.push ob) (hst : Still e.w w') : Ext e (e.row n w') := by
  refine ⟨rfl, fun _ _ => rfl, by simp [Env.row, hw], hst, fun b hb => ?_, fun b hb => ?_, fun b hb => ?_⟩
  · show w'.heap[b]? = _
    rw [hw, Array.getElem?_push, if_neg (Nat.ne_of_lt hb)]
  · simp [Env.row, Nat.ne_of_lt hb]
  · have : e.w.heap.size + 1 ≤ b := by simpa [Env.row, hw] using hb
    simp only [Env.row]
    rw [if_neg (by omega)]; exact ok.fresh b (by omega)
theorem cells_row {e : Env} (ok : EnvOK e) {w' : World} {cs : Array Value} {et : TypeId} {fr : Nat × Nat} (hw : w'.heap = e.w.heap.push (.cells cs et fr)) (hst : Still e.w w') {l : List AV} {vs : List Value} (hl : RepL e l vs)
    (h1 : ∀ v ∈ vs, isCell v = true) (hv : ∀ (j : Nat) (v : Value), vs[j]? = some v → cs[j]? = some v) : CellsAt (e.row vs.length w') l e.w.heap.size 0 := by
  have hx : Ext e (e.row vs.length w') := Env.row_ext ok hw hst
  refine CellsAt.of_values (e := e.row vs.length w') (cs := cs) (t := et) (fr := fr) (by simp [Env.row, hw]) (RepL.mono (hx.le ok) l hl) h1 (fun j v hj => by simpa using hv j v hj) ?_
  simp [Env.row]
end ops
section more
variable {P : Program} {r : Option Nat} {H : List AObj} {ρ : Operand → AV}
variable {d : Option Tmp} {t : TypeId} {p : String} {af : Array Edge} {g : Option (Nat × Bool)}
variable {x y z : Operand}
theorem flatten_len {sz : Nat} : ∀ {es : List (List AV)}, (∀ c ∈ es, c.length = sz) → es.flatten.length = es.length * sz
  | [], _ => by simp
  | c :: es, h => by
    simp only [List.flatten_cons, List.length_append, List.length_cons]
    rw [flatten_len (fun q hq => h q (List.mem_cons_of_mem _ hq)), h c (by simp), Nat.add_mul]; omega
theorem slx_read {e : Env} {sz : Nat} {es : List (List AV)} {a : Option Addr} {len cap : Nat} (hlen : len = es.length) (hnil : a = none → len = 0) (hsz : ∀ c ∈ es, c.length = sz)
    (hc : ∀ ad, a = some ad → (len ≠ 0 → ad.spot = none) ∧ ElemsAt e es ad.block ad.off) :
    ∃ olds : List Value, RepL e es.flatten olds ∧ (∀ q ∈ olds, isCell q = true) ∧ (Builtin.firstCells sz len (.slice a len cap)).run P e.w.drew = .ok olds.toArray e.w.drew ∧ (Builtin.firstCells sz len (.slice a len cap)).run P e.w = .ok olds.toArray e.w := by
  subst hlen
  cases a with
  | none =>
    have h0 := hnil rfl
    have hes : es = [] := List.length_eq_zero_iff.1 (by omega)
    subst hes
    exact ⟨[], RepL.nil, by simp, run_firstCells_none _ _ _ _ _, run_firstCells_none _ _ _ _ _⟩
  | some ad =>
    obtain ⟨hsp, hel⟩ := hc ad rfl
    obtain ⟨b, off, sp⟩ := ad
    by_cases hes : es = []
    · subst hes
      exact ⟨[], RepL.nil, by simp, run_firstCells_some e.w.drew sz 0 ⟨b, off, sp⟩ 0 cap [] (by simp) (fun j q hj => by simp at hj),
        run_firstCells_some e.w sz 0 ⟨b, off, sp⟩ 0 cap [] (by simp) (fun j q hj => by simp at hj)⟩
    have hsp := hsp (by have := List.length_pos_iff.2 hes; omega)
    simp only at hsp; subst hsp
    obtain ⟨vs, h1, h2, h3⟩ := (ElemsAt.flat.1 hel).values
    exact ⟨vs, h1, h2, run_firstCells_some e.w.drew sz es.length ⟨b, off, none⟩ es.length cap vs (by rw [h1.length, flatten_len hsz]) (fun j q hj => by rw [Addr.add_lit]; exact h3 j q hj),
      run_firstCells_some e.w sz es.length ⟨b, off, none⟩ es.length cap vs (by rw [h1.length, flatten_len hsz]) (fun j q hj => by rw [Addr.add_lit]; exact h3 j q hj)⟩
theorem run_append_row {e : Env} (ok : EnvOK e) {st xt et et' : TypeId} {sz bytes : Nat} (hf : SlFact P st et sz bytes) (hk : P.underlying xt = some (.slice et')) {es xs : List (List AV)} {a : Option Addr} {len cap : Nat} {v : Value}
    (hlen : len = es.length) (hnil : a = none → len = 0) (hsz : ∀ c ∈ es, c.length = sz) (hc : ∀ ad, a = some ad → (len ≠ 0 → ad.spot = none) ∧ ElemsAt e es ad.block ad.off)
    (hv : Rep e (.sl sz xs) v) (hgt : cap < es.length + xs.length) (hb : (es.length + xs.length) * bytes ≤ 140737488355328) (h63 : es.length + xs.length ≤ 9223372036854775807) :
    ∃ cap' cs w', (Builtin.append_ #[st, xt] t #[.slice a len cap, v]).run P e.w = .ok (.slice (some ⟨e.w.heap.size, 0, none⟩) (es.length + xs.length) cap') w' ∧
      w'.heap = e.w.heap.push (.cells cs et (0, 0)) ∧ Still e.w w' ∧ es.length + xs.length ≤ cap' ∧ cs.size = cap' * sz ∧ CellsAt (e.row ((es.length + xs.length) * sz) w') (es ++ xs).flatten e.w.heap.size 0 ∧ (∀ c ∈ es ++ xs, c.length = sz) := by
  obtain ⟨ti, z, k1, k2, rfl, rfl, k5, k6, k7⟩ := hf.ex
  obtain ⟨news, hsrc, hn⟩ := src_of hk hv
  have hxsz : ∀ c ∈ xs, c.length = ti.size := by rw [Rep] at hv; obtain ⟨_, _, _, _, _, _, _, h, _⟩ := hv; exact h
  obtain ⟨olds, ho1, ho2, ho3, _⟩ := slx_read (P := P) (cap := cap) hlen hnil hsz hc
  subst hlen
  have hcap := nextslicecap_le hgt
  have hrun := run_append_grow_src (P := P) e.w st xt t et ti z k1 k2 k5 a es.length cap olds ho3 v xs.length news hsrc hgt (by omega) (by
    have := Nat.mul_le_mul_right ti.bytes hcap
    have h2 : 2 * (es.length + xs.length) * ti.bytes = 2 * ((es.length + xs.length) * ti.bytes) := by rw [Nat.mul_assoc]
    omega)
  have hle := grownCap_le e.w (es.length + xs.length) cap et
  have hol : olds.length = es.length * ti.size := by rw [ho1.length, flatten_len hsz]
  have hnl : news.length = xs.length * ti.size := hsrc.newsLen
  refine ⟨_, _, _, hrun, rfl, ⟨rfl, rfl⟩, hle, ?_, ?_, fun c hcm => ?_⟩
  · simp only [Array.size_append, List.size_toArray, List.length_append, hol, hnl, Builtin.zeroCells, Array.size_map, Array.size_range, k7]
    rw [← Nat.add_mul, ← Nat.add_mul]
    congr 1; omega
  · have hall : RepL e (es ++ xs).flatten (olds ++ news) := by rw [List.flatten_append]; exact ho1.append hn
    have hln : (olds ++ news).length = (es.length + xs.length) * ti.size := by rw [List.length_append, hol, hnl, Nat.add_mul]
    rw [← hln]
    refine cells_row ok (vs := olds ++ news) rfl (by exact ⟨rfl, rfl⟩) hall (fun q hq => ?_) (fun j q hj => ?_)
    · rcases List.mem_append.1 hq with h | h
      · exact ho2 q h
      · exact hsrc.one q h
    · have hj' : j < (olds ++ news).toArray.size := by have := lt_of_get? hj; simpa using this
      rw [Array.getElem?_append_left hj']
      simpa using hj
  · rcases List.mem_append.1 hcm with h | h
    · exact hsz c h
    · exact hxsz c h
theorem run_append_nothing' {e : Env} {st xt et et' : TypeId} {sz bytes : Nat} (hf : SlFact P st et sz bytes) (hk : P.underlying xt = some (.slice et')) {a : Option Addr} {len cap : Nat} {v : Value}
    (hv : Rep e (.sl sz []) v) (hle : len ≤ cap) :
    (Builtin.append_ #[st, xt] t #[.slice a len cap, v]).run P e.w = .ok (.slice a len cap) e.w := by
  obtain ⟨ti, z, k1, k2, rfl, rfl, k5, k6, k7⟩ := hf.ex
  obtain ⟨news, hsrc, hn⟩ := src_of hk hv
  have hnews : news = [] := by simpa [RepL] using hn
  subst hnews
  have hl := hsrc.len
  simp only [List.length_nil] at hl
  have hc := hsrc.cells
  simp only [List.length_nil] at hc
  cases a <;> simp [Builtin.append_, run_und k1, run_und hk, run_size k2, hl, hc, hle, storeCells]
end more
end Go.Ab
