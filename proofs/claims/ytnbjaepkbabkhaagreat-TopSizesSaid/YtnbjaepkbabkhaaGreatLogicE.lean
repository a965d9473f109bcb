/-
  A part of the proof: conditions: none beyond each theorem's own.
-/
import Derived.Test.YtnbjaepkbabkhaaGreatLogicC
import Derived.Test.YtnbjaepkbabkhaaGreatLogicD
import Derived.DeepKeys
import Derived.DeepKeys3
set_option linter.all false
namespace Go.Ab
variable [Tabs]
/-- **A change of one object**, whatever else stands. -/
def EffL (c : Ctx) (Q : AExit → St → Prop) (o : Oper) (k : Nat) (o0 ob : AObj) (df : List ADef) (ρ : Operand → AV) (v : AV) : Prop :=
  ∀ s e a, Sim c s e a → s.H[k]? = some o0 → s.df = df → (∀ x ∈ o.op.operands.toList, s.op x = ρ x) → ∀ K : Act → World → Prop,
    (∀ e' a', Sim c (St.put { s with H := s.H.set k ob } o.dst v) e' a' → (∀ q, q ≠ k → e'.μ q = e.μ q) → K a' e'.w) → o.wpIn (FW c.r) 0 c.P a e.w K (lift c Q)
def mask (ms : List Nat) (H : List AObj) : List AObj := H.mapIdx fun i o => if ms.contains i then .tok 0 else o
def msOK (b : Array Nat) (ix : List (Nat × Nat)) (i : Nat) (ms : List Nat) : Bool := ix.all fun q => ms.contains q.2 || (Nat.blt i q.1 && (b.getD q.1 0).testBit i)
def ixOK (n : Nat) (b : Array Nat) (ix : List (Nat × Nat)) : Bool := ix.all fun q => Nat.blt q.1 n && ix.all fun r => (!Nat.beq q.1 r.1 || Nat.beq q.2 r.2) && (!Nat.beq q.2 r.2 || !Nat.blt r.1 q.1 || (b.getD q.1 0).testBit r.1)
def drawOKl (ops : Array Oper) (ix : List (Nat × Nat)) : Bool := drawOKc ops [] [] && ixOK ops.size (Region.before ops) ix
def deedL (c : Ctx) (Q : AExit → St → Prop) (H0 : List AObj) (ops : Array Oper) (ix : List (Nat × Nat)) (i : Nat) (o : Oper) (s : St) : Act4 → Prop
  | .pan => False
  | .val v => guardIs ops c.nt s o true ∧ ∃ ms, msOK (Region.before ops) ix i ms = true ∧ Ev c.P c.r o (mask ms H0) s.op v
  | .skip => guardIs ops c.nt s o false
  | .fresh l id => o.guard = none ∧ id = s.H.length ∧ FreshOK c Q [] o s.op id l.1 l.2
  | .eff v H' => o.guard = none ∧ ∃ k o0 ob, (i, k) ∈ ix ∧ k < H0.length ∧ s.H[k]? = some o0 ∧ H' = s.H.set k ob ∧ EffL c Q o k o0 ob s.df s.op v
def DVl (c : Ctx) (Q : AExit → St → Prop) (H0 : List AObj) (ops : Array Oper) (ix : List (Nat × Nat)) : Nat → St → List Act4 → St → Prop
  | _, s, [], sf => sf = s
  | i, s, x :: «as», sf => (∃ o, ops[i]? = some o ∧ dOK c.nt o.dst = true ∧ deedL c Q H0 ops ix i o s x) ∧ DVl c Q H0 ops ix (i + 1) (upd (dstOf ops i) s x) «as» sf
def DL (c : Ctx) (H0 : List AObj) (ops : Array Oper) (ix : List (Nat × Nat)) (Q : AExit → St → Prop) (i : Nat) (l : List Oper) (s : St) : Prop :=
  i ≤ ops.size → ops.toList.drop i = l → ∃ «as» sf, i + «as».length = ops.size ∧ DVl c Q H0 ops ix i s «as» sf ∧ Q .normal sf
section rules
variable {c : Ctx} {H0 : List AObj} {ops : Array Oper} {ix : List (Nat × Nat)} {Q : AExit → St → Prop} {i : Nat} {s : St} {rest : List Oper}
variable {d : Option Tmp} {op : Op} {t : TypeId} {p : String} {af : Array Edge}
theorem dl_nil (h : Q .normal s) : DL c H0 ops ix Q i [] s := by
  intro hle hd
  have hge : ops.size ≤ i := by simpa [List.drop_eq_nil_iff] using hd
  exact ⟨[], s, by simp; omega, rfl, h⟩
theorem dl_step {o : Oper} (x : Act4) (hd : dOK c.nt o.dst = true) (hx : deedL c Q H0 ops ix i o s x) (k : DL c H0 ops ix Q (i + 1) rest (upd o.dst s x)) : DL c H0 ops ix Q i (o :: rest) s := by
  intro _ hdr
  obtain ⟨ho, hr⟩ := drop_cons hdr
  have ho : ops[i]? = some o := by simpa using ho
  have hlt := (Array.getElem?_eq_some_iff.1 ho).1
  obtain ⟨«as», sf, h1, h2, h3⟩ := k hlt hr
  have hdo : dstOf ops i = o.dst := by unfold dstOf; rw [ho]; rfl
  exact ⟨x :: «as», sf, by simp; omega, ⟨⟨o, ho, hd, hx⟩, by rw [hdo]; exact h2⟩, h3⟩
theorem dl_ev {v : AV} (ms : List Nat) (hd : dOK c.nt d = true) (hm : msOK (Region.before ops) ix i ms = true) (hv : Ev c.P c.r ⟨d, op, t, p, af, none⟩ (mask ms H0) s.op v) (k : DL c H0 ops ix Q (i + 1) rest (s.put d v)) : DL c H0 ops ix Q i (⟨d, op, t, p, af, none⟩ :: rest) s :=
  dl_step (.val v) hd ⟨rfl, ms, hm, hv⟩ k
theorem dl_eff {v : AV} {k : Nat} {o0 ob : AObj} (hd : dOK c.nt d = true) (hx : ix.contains (i, k) = true) (hk : Nat.blt k H0.length = true) (ho : s.H[k]? = some o0) (he : EffL c Q ⟨d, op, t, p, af, none⟩ k o0 ob s.df s.op v)
    (K : DL c H0 ops ix Q (i + 1) rest (St.put { s with H := s.H.set k ob } d v)) : DL c H0 ops ix Q i (⟨d, op, t, p, af, none⟩ :: rest) s :=
  dl_step (.eff v (s.H.set k ob)) hd ⟨rfl, k, o0, ob, by simpa using hx, by simpa [Nat.blt_eq] using hk, ho, rfl, he⟩ K
end rules
section main
variable {c : Ctx} {Q : AExit → St → Prop} {ops : Array Oper} {ix : List (Nat × Nat)} {b : Array Nat} {«as» : List Act4} {s sf : St}
structure TxF (ops : Array Oper) (s sf : St) («as» : List Act4) : Prop where
  len : «as».length = ops.size
  fin : sf = stk ops 0 «as» s ops.size
structure TxL (c : Ctx) (Q : AExit → St → Prop) (ops : Array Oper) (ix : List (Nat × Nat)) (s sf : St) («as» : List Act4) : Prop extends TxF ops s sf «as» where
  at_ : ∀ k x, «as»[k]? = some x → ∃ o, ops[k]? = some o ∧ dOK c.nt o.dst = true ∧ deedL c Q s.H ops ix k o (stk ops 0 «as» s k) x
theorem txf_reads (hT : TxF ops s sf «as») (hc : ChkC ops b [] []) {listed : Array Bool} (hsz : listed.size = ops.size) (hcl : Closed ops b listed) {i : Nat} (hi : i ∈ Region.ready .any ops listed) {o : Oper} (ho : ops[i]? = some o) {t : Tmp}
    (ht : t ∈ opTmps o ∨ t ∈ guardTmp ops o) : sget (slL sf s ops listed) t = sget (stA ops «as» s i).sl t := by
  obtain ⟨hin, hnl, _⟩ := (mem_ready' hsz).1 hi
  have hold : (∀ j, j < i → dstOf ops j ≠ some t) → sget (stA ops «as» s i).sl t = sget s.sl t := fun h => by
    have := stA_between (ops := ops) («as» := «as») (s := s) (k := 0) (t := t) i (fun j _ hj => h j (by omega))
    rwa [Nat.zero_add, stA_zero] at this
  by_cases hex : ∃ j, j < ops.size ∧ dstOf ops j = some t
  · obtain ⟨j, hj, hd⟩ := hex
    have huniq : ∀ j', j' < ops.size → j' ≠ j → dstOf ops j' ≠ some t := fun j' h1 h2 => hc.dsts j j' hj h1 (Ne.symm h2) t hd
    rcases hc.tmps i o ho t ht j hj hd with h | ⟨h1, h2⟩ | ⟨h1, h2⟩
    · subst h
      rw [slL_out (fun j' h1 h2 => huniq j' h1 (fun e => by subst e; rw [hnl] at h2; cases h2)), hold (fun j' h1 => huniq j' (by omega) (by omega))]
    · have hl := readyC hc hsz hcl hi hj h2
      rw [slL_in hj hl hd, hT.fin]
      have := stA_between (ops := ops) («as» := «as») (s := s) (k := i) (t := t) (ops.size - i) (fun j' h3 h4 => huniq j' (by omega) (by omega))
      rw [show i + (ops.size - i) = ops.size by omega] at this
      exact this
    · have hl : isIn listed j = false := by
        cases hb : isIn listed j with
        | false => rfl
        | true => have := hcl j i hj hin hb h2; rw [hnl] at this; cases this
      rw [slL_out (fun j' h3 h4 => huniq j' h3 (fun e => by subst e; rw [hl] at h4; cases h4)), hold (fun j' h3 => huniq j' (by omega) (by omega))]
  · have hno : ∀ j, j < ops.size → dstOf ops j ≠ some t := fun j h1 h2 => hex ⟨j, h1, h2⟩
    rw [slL_out (fun j h1 _ => hno j h1), hold (fun j h1 => hno j (by omega))]
theorem txf_out (hT : TxF ops s sf «as») (hc : ChkC ops b [] []) {i : Nat} {x : Act4} (hx : «as»[i]? = some x) {t : Tmp} (hd : dstOf ops i = some t) : sget sf.sl t = x.out := by
  have hi : i < ops.size := by have := lt_of_get? hx; rw [hT.len] at this; exact this
  have := stA_between (ops := ops) («as» := «as») (s := s) (k := i + 1) (t := t) (ops.size - (i + 1)) (fun j' h3 h4 => hc.dsts i j' hi (by omega) (by omega) t hd)
  rw [show i + 1 + (ops.size - (i + 1)) = ops.size by omega] at this
  rw [hT.fin]
  refine Eq.trans this ?_
  rw [stA_succ hx, hd]; exact upd_eq
theorem slF_step (hT : TxF ops s sf «as») (hc : ChkC ops b [] []) {listed : Array Bool} (hsz : listed.size = ops.size) {i : Nat} (hi : i < ops.size) {x : Act4} (hx : «as»[i]? = some x) {o : Oper} (ho : ops[i]? = some o) (H : List AObj) (df : List ADef) :
    ∀ t, sget (slL sf s ops (listed.setIfInBounds i true)) t = sget (St.put ⟨slL sf s ops listed, H, df⟩ o.dst x.out).sl t := by
  have hdo : dstOf ops i = o.dst := by unfold dstOf; rw [ho]; rfl
  intro t
  by_cases hd : o.dst = some t
  · rw [hd, sget_put_eq, slL_in hi (by rw [isIn_set (by omega)]; simp) (by rw [hdo]; exact hd)]
    exact txf_out hT hc hx (by rw [hdo]; exact hd)
  · rw [sget_put_ne hd]
    by_cases hex : ∃ j, j < ops.size ∧ isIn listed j = true ∧ dstOf ops j = some t
    · obtain ⟨j, h1, h2, h3⟩ := hex
      rw [slL_in h1 (by rw [isIn_set (by omega), h2]; rfl) h3]
      exact (slL_in h1 h2 h3).symm
    · rw [slL_out (fun j h1 h2 h3 => ?_), slL_out (fun j h1 h2 h3 => hex ⟨j, h1, h2, h3⟩)]
      rw [isIn_set (by omega)] at h2
      simp only [Bool.or_eq_true, decide_eq_true_eq] at h2
      rcases h2 with h2 | h2
      · exact hex ⟨j, h1, h2, h3⟩
      · subst h2; rw [hdo] at h3; exact hd h3
theorem dvl_fin : ∀ («as» : List Act4) (i : Nat) (s sf : St) (H0 : List AObj), DVl c Q H0 ops ix i s «as» sf → sf = stk ops i «as» s «as».length
  | [], _, _, _, _, h => h
  | _ :: «as», i, s, sf, H0, h => dvl_fin «as» (i + 1) _ sf H0 h.2
theorem dvl_at : ∀ («as» : List Act4) (i : Nat) (s sf : St) (H0 : List AObj), DVl c Q H0 ops ix i s «as» sf → ∀ k x, «as»[k]? = some x → ∃ o, ops[i + k]? = some o ∧ dOK c.nt o.dst = true ∧ deedL c Q H0 ops ix (i + k) o (stk ops i «as» s k) x
  | [], _, _, _, _, _, _, _, hk => by simp at hk
  | y :: «as», i, s, sf, H0, h, 0, x, hk => by
    simp only [List.getElem?_cons_zero, Option.some.injEq] at hk
    subst hk; exact h.1
  | y :: «as», i, s, sf, H0, h, k + 1, x, hk => by
    have := dvl_at «as» (i + 1) _ sf H0 h.2 k x (by simpa using hk)
    rw [show i + (k + 1) = i + 1 + k by omega]; exact this
def acts (ix : List (Nat × Nat)) («as» : List Act4) (j k : Nat) : Prop := (∃ v H', «as»[j]? = some (.eff v H')) ∧ (j, k) ∈ ix
structure IxOK (n : Nat) (b : Array Nat) (ix : List (Nat × Nat)) : Prop where
  fn : ∀ j k k', (j, k) ∈ ix → (j, k') ∈ ix → k = k'
  ord : ∀ i j k, (i, k) ∈ ix → (j, k) ∈ ix → j < i → (b.getD i 0).testBit j = true
theorem ixOK_of {n : Nat} (h : ixOK n b ix = true) : IxOK n b ix := by
  have key : ∀ q ∈ ix, ∀ r ∈ ix, (q.1 = r.1 → q.2 = r.2) ∧ (q.2 = r.2 → r.1 < q.1 → (b.getD q.1 0).testBit r.1 = true) := by
    intro q hq r hr
    have h1 := List.all_eq_true.1 h q hq
    rw [Bool.and_eq_true] at h1
    have h2 := List.all_eq_true.1 h1.2 r hr
    simp only [Bool.and_eq_true, Bool.or_eq_true, Bool.not_eq_true'] at h2
    refine ⟨fun e => ?_, fun e hlt => ?_⟩
    · rcases h2.1 with h3 | h3
      · rw [e] at h3; simp at h3
      · exact Nat.eq_of_beq_eq_true h3
    · rcases h2.2 with (h3 | h3) | h3
      · rw [e] at h3; simp at h3
      · have : Nat.blt r.1 q.1 = true := by simpa [Nat.blt_eq] using hlt
        rw [this] at h3; cases h3
      · exact h3
  exact ⟨fun j k k' h1 h2 => (key _ h1 _ h2).1 rfl, fun i j k h1 h2 hlt => (key _ h1 _ h2).2 rfl hlt⟩
abbrev hx (ops : Array Oper) («as» : List Act4) (s : St) (k : Nat) : List AObj := (stA ops «as» s k).H
theorem hx_len (hT : TxL c Q ops ix s sf «as») : ∀ k, s.H.length ≤ (hx ops «as» s k).length ∧ (∀ j l id, j < k → «as»[j]? = some (.fresh l id) → s.H.length ≤ id ∧ id < (hx ops «as» s k).length ∧ (hx ops «as» s k)[id]? = some l.1) ∧
    (∀ m, s.H.length ≤ m → m < (hx ops «as» s k).length → ∃ j l, j < k ∧ «as»[j]? = some (.fresh l m))
  | 0 => by rw [show hx ops «as» s 0 = s.H by show (stA ops «as» s 0).H = _; rw [stA_zero]]; exact ⟨Nat.le_refl _, fun j _ _ h => by omega, fun m h1 h2 => by omega⟩
  | k + 1 => by
    obtain ⟨h1, h2, h3⟩ := hx_len hT k
    have keep : (hx ops «as» s (k + 1)).length = (hx ops «as» s k).length → (∀ id, s.H.length ≤ id → (hx ops «as» s (k + 1))[id]? = (hx ops «as» s k)[id]?) → (∀ l id, «as»[k]? ≠ some (.fresh l id)) →
        s.H.length ≤ (hx ops «as» s (k + 1)).length ∧ (∀ j l id, j < k + 1 → «as»[j]? = some (.fresh l id) → s.H.length ≤ id ∧ id < (hx ops «as» s (k + 1)).length ∧ (hx ops «as» s (k + 1))[id]? = some l.1) ∧
        (∀ m, s.H.length ≤ m → m < (hx ops «as» s (k + 1)).length → ∃ j l, j < k + 1 ∧ «as»[j]? = some (.fresh l m)) := by
      intro e1 e2 hn
      refine ⟨by omega, fun j l id hj hf => ?_, fun m g1 g2 => ?_⟩
      · rcases Nat.lt_or_ge j k with g | g
        · obtain ⟨q1, q2, q3⟩ := h2 j l id g hf
          exact ⟨q1, by omega, by rw [e2 id q1]; exact q3⟩
        · have : j = k := by omega
          subst this; exact absurd hf (hn l id)
      · obtain ⟨j, l, g3, g4⟩ := h3 m g1 (by omega)
        exact ⟨j, l, by omega, g4⟩
    rcases Nat.lt_or_ge k «as».length with hl | hl
    · have hx' : «as»[k]? = some «as»[k] := by simp [hl]
      have hH := stA_heap (ops := ops) (s := s) hx'
      cases hy : «as»[k] with
      | pan => rw [hy] at hH hx'; exact keep (by show ((stA ops «as» s (k+1)).H).length = _; rw [hH]; rfl) (fun id _ => by show (stA ops «as» s (k+1)).H[id]? = _; rw [hH]; rfl) (fun l id e => by rw [hx'] at e; cases e)
      | val v => rw [hy] at hH hx'; exact keep (by show ((stA ops «as» s (k+1)).H).length = _; rw [hH]; rfl) (fun id _ => by show (stA ops «as» s (k+1)).H[id]? = _; rw [hH]; rfl) (fun l id e => by rw [hx'] at e; cases e)
      | skip => rw [hy] at hH hx'; exact keep (by show ((stA ops «as» s (k+1)).H).length = _; rw [hH]; rfl) (fun id _ => by show (stA ops «as» s (k+1)).H[id]? = _; rw [hH]; rfl) (fun l id e => by rw [hx'] at e; cases e)
      | eff v H' =>
        rw [hy] at hH hx'
        obtain ⟨o, _, _, _, q, o0, ob, _, hq, _, hset, _⟩ := hT.at_ k _ hx'
        have hset : H' = (stA ops «as» s k).H.set q ob := hset
        have hH : (stA ops «as» s (k + 1)).H = (stA ops «as» s k).H.set q ob := by rw [hH, ← hset]; rfl
        exact keep (by show ((stA ops «as» s (k+1)).H).length = _; rw [hH]; simp) (fun id hid => by show (stA ops «as» s (k+1)).H[id]? = _; rw [hH, List.getElem?_set_ne (by omega)]) (fun l id e => by rw [hx'] at e; cases e)
      | fresh l id =>
        rw [hy] at hH hx'
        obtain ⟨o, _, _, _, hid, _⟩ := hT.at_ k _ hx'
        have hid : id = (hx ops «as» s k).length := hid
        have e0 : hx ops «as» s (k + 1) = hx ops «as» s k ++ [l.1] := hH
        clear hH
        rw [e0]
        refine ⟨by simp; omega, fun j l' id' hj hf => ?_, fun m g1 g2 => ?_⟩
        · rcases Nat.lt_or_ge j k with g | g
          · obtain ⟨g1, g2, g3⟩ := h2 j l' id' g hf
            exact ⟨g1, by simp; omega, by rw [List.getElem?_append_left g2]; exact g3⟩
          · have : j = k := by omega
            subst this
            rw [hx'] at hf; simp only [Option.some.injEq, Act4.fresh.injEq] at hf
            obtain ⟨rfl, rfl⟩ := hf
            exact ⟨by omega, by simp; omega, by rw [hid]; simp⟩
        · rcases Nat.lt_or_ge m (hx ops «as» s k).length with g | g
          · obtain ⟨j, l', g3, g4⟩ := h3 m g1 g
            exact ⟨j, l', by omega, g4⟩
          · have : m = id := by simp at g2; omega
            subst this; exact ⟨k, l, by omega, hx'⟩
    · have e : hx ops «as» s (k + 1) = hx ops «as» s k := by show (stA ops «as» s (k+1)).H = (stA ops «as» s k).H; unfold stA; rw [stk_none hl]
      exact keep (by rw [e]) (fun id _ => by rw [e]) (fun l id hh => by rw [List.getElem?_eq_none hl] at hh; cases hh)
theorem hx_same (hT : TxL c Q ops ix s sf «as») {i : Nat} (hi : i < s.H.length) {m : Nat} : ∀ d, (∀ j, m ≤ j → j < m + d → ¬ acts ix «as» j i) → (hx ops «as» s (m + d))[i]? = (hx ops «as» s m)[i]?
  | 0, _ => rfl
  | d + 1, h => by
    rw [← hx_same hT hi d (fun j h1 h2 => h j h1 (by omega))]
    have hlen := (hx_len hT (m + d)).1
    rcases Nat.lt_or_ge (m + d) «as».length with hl | hl
    · have hx' : «as»[m + d]? = some «as»[m + d] := by simp [hl]
      have hH := stA_heap (ops := ops) (s := s) hx'
      show (stA ops «as» s (m + (d + 1))).H[i]? = _
      rw [show m + (d + 1) = m + d + 1 by omega]
      cases hy : «as»[m + d] with
      | pan => rw [hy] at hH; rw [hH]; rfl
      | val v => rw [hy] at hH; rw [hH]; rfl
      | skip => rw [hy] at hH; rw [hH]; rfl
      | fresh l id => rw [hy] at hH; rw [hH]; exact List.getElem?_append_left (show i < (hx ops «as» s (m + d)).length by omega)
      | eff v H' =>
        rw [hy] at hH hx'
        obtain ⟨o, _, _, _, q, o0, ob, hin, hq, _, hset, _⟩ := hT.at_ (m + d) _ hx'
        have hset : H' = (stA ops «as» s (m + d)).H.set q ob := hset
        have hqi : q ≠ i := fun e => h (m + d) (by omega) (by omega) ⟨⟨v, H', hx'⟩, by rw [← e]; exact hin⟩
        rw [hH]; show H'[i]? = _
        rw [hset, List.getElem?_set_ne hqi]
    · have e : hx ops «as» s (m + (d + 1)) = hx ops «as» s (m + d) := by show (stA ops «as» s (m + d + 1)).H = (stA ops «as» s (m + d)).H; unfold stA; rw [stk_none hl]
      rw [e]
theorem hx_eq (hT : TxL c Q ops ix s sf «as») {i : Nat} (hi : i < s.H.length) {m n : Nat} (h : ∀ j, ((m ≤ j ∧ j < n) ∨ (n ≤ j ∧ j < m)) → ¬ acts ix «as» j i) : (hx ops «as» s n)[i]? = (hx ops «as» s m)[i]? := by
  rcases Nat.le_total m n with q | q
  · have := hx_same hT hi (m := m) (n - m) (fun j h1 h2 => h j (.inl ⟨h1, by omega⟩))
    rwa [show m + (n - m) = n by omega] at this
  · have := hx_same hT hi (m := n) (m - n) (fun j h1 h2 => h j (.inr ⟨h1, by omega⟩))
    rw [show n + (m - n) = m by omega] at this
    exact this.symm
structure PL (c : Ctx) (ops : Array Oper) (ix : List (Nat × Nat)) («as» : List Act4) (s sf : St) (listed : Array Bool) (e : Env) (a : Act) : Prop where
  sim : Sim c ⟨slL sf s ops listed, e.H, s.df⟩ e a
  len : e.H.length = (hx ops «as» s ops.size).length
  old : ∀ i, i < s.H.length → ∃ m, m ≤ ops.size ∧ e.H[i]? = (hx ops «as» s m)[i]? ∧ (∀ j, j < m → acts ix «as» j i → isIn listed j = true) ∧ (∀ j, m ≤ j → acts ix «as» j i → isIn listed j = false)
  new : ∀ (k : Nat) (l : AObj × AV) (id : Nat), «as»[k]? = some (Act4.fresh l id) → (isIn listed k = true → e.H[id]? = some l.1) ∧ (isIn listed k = false → e.H[id]? = some .dead ∧ e.μ id = none)
theorem pl_start {e : Env} {a : Act} (hT : TxL c Q ops ix s sf «as») (hs : Sim c s e a) (n : Nat) :
    ∃ e', e'.w = { e.w with drawn := e.w.drawn + 1 } ∧ PL c ops ix «as» s sf (Array.replicate n false) e' a := by
  obtain ⟨b1, b2, b3⟩ := hx_len hT ops.size
  have hs1 := hs.ext (EnvOK.drew hs.ok)
  generalize he1 : ({ e with w := { e.w with drawn := e.w.drawn + 1 } } : Env) = e1 at hs1
  have hw : e1.w = { e.w with drawn := e.w.drawn + 1 } := by rw [← he1]
  obtain ⟨nf, hnf⟩ : ∃ nf, nf = (hx ops «as» s ops.size).length - s.H.length := ⟨_, rfl⟩
  obtain ⟨e2, he2⟩ : ∃ e2 : Env, e2 = { H := e1.H ++ List.replicate nf .dead, μ := fun i => if i < e1.H.length then e1.μ i else none, G := e1.G, w := e1.w } := ⟨_, rfl⟩
  have hT' : ∀ i, e2.T i = e1.T i := fun i => by
    rw [he2]; unfold Env.T
    rcases Nat.lt_or_ge i e1.H.length with h | h
    · simp [List.getElem?_append_left h]
    · rw [List.getElem?_append_right h, List.getElem?_eq_none h, List.getElem?_replicate]
      split <;> rfl
  have le : e1.Le e2 := by
    refine ⟨by rw [he2]; simp, fun i hi ht => ⟨by rw [hT']; exact ht, fun _ hb => by rw [he2]; simpa [hi] using hb⟩, fun b off ho => by rw [he2]; exact ⟨ho, rfl⟩, fun i n ht => ⟨n, by rw [hT']; exact ht, Nat.le_refl _, fun _ => ?_⟩⟩
    have hi : i < e1.H.length := by
      rcases Nat.lt_or_ge i e1.H.length with k | k
      · exact k
      · unfold Env.T at ht; rw [List.getElem?_eq_none k] at ht; simp [tokOf] at ht
    rw [he2]
    exact ⟨by simp [hi], fun b cs t _ hh => ⟨rfl, cs, hh, rfl⟩⟩
  have hlt : ∀ i, i < e2.H.length → ∀ b, e2.μ i = some b → i < e1.H.length ∧ e1.μ i = some b := fun i _ b hb => by
    rw [he2] at hb
    simp only at hb
    by_cases h : i < e1.H.length
    · rw [if_pos h] at hb; exact ⟨h, hb⟩
    · rw [if_neg h] at hb; cases hb
  have hno : ∀ j, isIn (Array.replicate n false) j = false := fun j => by
    unfold isIn; rw [Array.getD_eq_getD_getElem?, Array.getElem?_replicate]; split <;> rfl
  have hsl : ∀ t, sget (slL sf s ops (Array.replicate n false)) t = sget s.sl t := fun t => slL_out (fun j _ h => by rw [hno] at h; cases h)
  refine ⟨e2, by rw [he2]; exact hw, ⟨hs1.size, fun t => ?_, hs1.defers.mono le, rfl, ⟨by rw [he2]; exact hs1.ok.fresh, fun i o ho => ?_, fun i j b hi hj h1 h2 => ?_, fun i b hi h1 => ?_, hs1.ok.tabs.sub (by rw [he2]) fun i b hi h1 => ⟨i, (hlt i hi b h1).1, (hlt i hi b h1).2⟩⟩, ⟨by rw [he2]; exact hs1.fr.size, by rw [he2]; exact hs1.fr.still, by rw [he2]; exact hs1.fr.heap, fun i b hi h1 => ?_, hs1.fr.le.trans le⟩⟩, ?_, fun i hi => ⟨0, Nat.zero_le _, ?_, fun j hj _ => absurd hj (Nat.not_lt_zero _), fun j _ _ => hno j⟩, fun k l id hk => ⟨fun h => ?_, fun _ => ?_⟩⟩
  · simp only [hsl]; exact Rep.mono le _ (hs1.slots t)
  · rcases Nat.lt_or_ge i e1.H.length with h | h
    · have ho' : e1.H[i]? = some o := by rw [he2] at ho; simpa [List.getElem?_append_left h] using ho
      exact ObjSim.mono le (hs1.ok.objs i o ho') (by rw [he2]; simp [h]) (fun _ _ => by rw [he2]; exact ⟨rfl, rfl⟩)
    · rw [he2] at ho
      simp only [List.getElem?_append_right h, List.getElem?_replicate] at ho
      split at ho
      · simp only [Option.some.injEq] at ho; subst ho; trivial
      · cases ho
  · obtain ⟨g1, g2⟩ := hlt i hi b h1
    obtain ⟨g3, g4⟩ := hlt j hj b h2
    exact hs1.ok.inj i j b g1 g3 g2 g4
  · obtain ⟨g1, g2⟩ := hlt i hi b h1
    have := hs1.ok.live i b g1 g2
    rw [he2]; exact this
  · obtain ⟨g1, g2⟩ := hlt i hi b h1
    exact hs1.fr.objs i b g1 g2
  · rw [he2]; simp only [List.length_append, List.length_replicate, hs1.H]; omega
  · have h0 : hx ops «as» s 0 = s.H := by show (stA ops «as» s 0).H = _; rw [stA_zero]
    rw [he2, h0]; simp only
    rw [hs1.H, List.getElem?_append_left hi]
  · rw [hno] at h; cases h
  · have hkN : k < ops.size := by have := lt_of_get? hk; rw [hT.len] at this; exact this
    obtain ⟨g1, g2, _⟩ := b2 k l id hkN hk
    rw [he2]
    simp only [hs1.H]
    refine ⟨?_, by rw [if_neg (by omega)]⟩
    rw [List.getElem?_append_right g1, List.getElem?_replicate, if_pos (by omega)]
theorem fresh_ne (hT : TxL c Q ops ix s sf «as») {k k' : Nat} {l l' : AObj × AV} {id id' : Nat} (hk : «as»[k]? = some (Act4.fresh l id)) (hk' : «as»[k']? = some (Act4.fresh l' id')) (hne : k ≠ k') : id ≠ id' := by
  have hlt : ∀ (k k' : Nat) (l l' : AObj × AV) (id id' : Nat), k < k' → «as»[k]? = some (Act4.fresh l id) → «as»[k']? = some (Act4.fresh l' id') → id < id' := by
    intro k k' l l' id id' hkk hk hk'
    obtain ⟨_, _, _, _, q, _⟩ := hT.at_ k' _ hk'
    have q : id' = (hx ops «as» s k').length := q
    have := (hx_len hT k').2.1 k l id hkk hk
    omega
  rcases Nat.lt_or_gt_of_ne hne with h | h
  · exact Nat.ne_of_lt (hlt k k' l l' id id' h hk hk')
  · exact Ne.symm (Nat.ne_of_lt (hlt k' k l' l id' id h hk' hk))
theorem pl_step (hT : TxL c Q ops ix s sf «as») (hc : ChkC ops b [] []) (hbe : b = Region.before ops) (hix : IxOK ops.size b ix)
    {listed : Array Bool} (hsz : listed.size = ops.size) (hcl : Closed ops b listed) {i : Nat} (hi : i ∈ Region.ready .any ops listed) {e : Env} {a : Act} (hp : PL c ops ix «as» s sf listed e a)
    {K : Act → World → Prop} (hK : ∀ e' a', PL c ops ix «as» s sf (listed.setIfInBounds i true) e' a' → K a' e'.w) : wpOpIn (FW c.r) 0 c.P ops (lift c Q) i K a e.w := by
  obtain ⟨hin, hnl, _⟩ := (mem_ready' hsz).1 hi
  have hil : i < listed.size := by omega
  have hget : ∃ d, «as»[i]? = some d := ⟨«as»[i]'(by rw [hT.len]; exact hin), by simp [hT.len, hin]⟩
  obtain ⟨x, hx'⟩ := hget
  obtain ⟨o, ho, hdk, hdeed⟩ := hT.at_ i x hx'
  have hdo : dstOf ops i = o.dst := by unfold dstOf; rw [ho]; rfl
  have hreads : ∀ t, t ∈ opTmps o ∨ t ∈ guardTmp ops o → sget (slL sf s ops listed) t = sget (stA ops «as» s i).sl t := fun t ht => txf_reads hT.toTxF hc hsz hcl hi ho ht
  have hset : ∀ j, isIn (listed.setIfInBounds i true) j = (isIn listed j || decide (j = i)) := fun j => isIn_set hil
  have hopeq : ∀ x ∈ o.op.operands.toList, St.op ⟨slL sf s ops listed, e.H, s.df⟩ x = (stA ops «as» s i).op x := by
    intro x hxm
    cases x with
    | tmp t => exact hreads t (.inl (mem_opTmps hxm))
    | const v => rfl
    | global g => rfl
    | func f => rfl
  have hops : ∀ x ∈ o.op.operands.toList, Rep e ((stA ops «as» s i).op x) (a.eval x) := fun x hxm => by rw [← hopeq x hxm]; exact hp.sim.op x
  have hgt : ∀ t, t ∈ guardTmp ops o → Rep e (sget (stA ops «as» s i).sl t) (a.tmps.getD t undef) := fun t ht => by rw [← hreads t (.inr ht)]; exact hp.sim.slots t
  have hslst := slF_step hT.toTxF hc hsz hin hx' ho e.H s.df
  have hphQ : ∀ e' : Env, e'.H = e.H → (∀ id, id < e.H.length → e'.μ id = e.μ id) → ¬ special x → ∀ sim' : Act, Sim c ⟨slL sf s ops (listed.setIfInBounds i true), e'.H, s.df⟩ e' sim' → PL c ops ix «as» s sf (listed.setIfInBounds i true) e' sim' := by
    intro e' hH hμ hns a' hs'
    refine ⟨hs', by rw [hH]; exact hp.len, fun q hq => ?_, fun k l id hk => ?_⟩
    · obtain ⟨m, h1, h2, h3, h4⟩ := hp.old q hq
      refine ⟨m, h1, by rw [hH]; exact h2, fun j hj hact => by rw [hset, h3 j hj hact]; rfl, fun j hj hact => ?_⟩
      have hji : j ≠ i := fun e => by subst e; obtain ⟨⟨v, H', h5⟩, _⟩ := hact; rw [hx'] at h5; cases h5; exact hns trivial
      rw [hset, h4 j hj hact]; simpa using hji
    · have hki : k ≠ i := fun e => by subst e; rw [hx'] at hk; cases hk; exact hns trivial
      have : decide (k = i) = false := by simpa using hki
      have hidl : isIn listed k = false → id < e.H.length := fun h => lt_of_get? ((hp.new k l id hk).2 h).1
      rw [hset, this, Bool.or_false, hH]
      refine ⟨(hp.new k l id hk).1, fun h => ?_⟩
      rw [hμ id (hidl h)]
      exact (hp.new k l id hk).2 h
  unfold wpOpIn
  simp only [ho]
  cases x with
  | pan => exact hdeed.elim
  | val v =>
    obtain ⟨hg, ms, hms, hev⟩ := hdeed
    have hw := guard_wanted (e := e) hp.sim.size hg hgt
    rw [if_pos hw]
    have hsx : HSub (mask ms s.H) e.H := by
      intro q o1 hq hnt
      have hql : q < s.H.length := by have := lt_of_get? hq; simpa [mask] using this
      have hq' : (mask ms s.H)[q]? = some (if ms.contains q then .tok 0 else s.H[q]) := by unfold mask; rw [List.getElem?_mapIdx, List.getElem?_eq_getElem hql]; rfl
      rw [hq'] at hq
      have hq := Option.some.inj hq
      by_cases hmq : ms.contains q = true
      · rw [if_pos hmq] at hq; exact absurd hq.symm (hnt 0)
      · rw [if_neg hmq] at hq
        obtain ⟨m, h1, h2, h3, h4⟩ := hp.old q hql
        have hnone : ∀ j, ((m ≤ j ∧ j < 0) ∨ (0 ≤ j ∧ j < m)) → ¬ acts ix «as» j q := fun j hj hact => by
          have hl := h3 j (by omega) hact
          have h5 := List.all_eq_true.1 hms (j, q) hact.2
          simp only [Bool.or_eq_true, Bool.and_eq_true, Nat.blt_eq] at h5
          rcases h5 with h5 | ⟨_, h5⟩
          · exact hmq h5
          · obtain ⟨⟨v', H', h6⟩, _⟩ := hact
            obtain ⟨o', ho', _, _⟩ := hT.at_ j _ h6
            have := hcl j i (Array.getElem?_eq_some_iff.1 ho').1 hin hl (by rw [hbe]; exact h5)
            rw [hnl] at this; cases this
        have h7 := hx_eq hT hql (m := m) (n := 0) hnone
        rw [h2, ← h7, show hx ops «as» s 0 = s.H by show (stA ops «as» s 0).H = _; rw [stA_zero], List.getElem?_eq_getElem hql, hq]
    refine hev e a _ _ hp.sim.ok hsx hops (fun u e' hxt hu => hK e' _ (hphQ e' hxt.H (fun id h => hxt.μ id h) id _ ?_))
    exact ((hp.sim.ext hxt).put hdk hu).congr hslst (by simp only [hxt.H]; cases o.dst <;> rfl) (by cases o.dst <;> rfl)
  | skip =>
    have hw := guard_wanted (e := e) hp.sim.size hdeed hgt
    rw [if_neg (by rw [hw]; simp)]
    refine ⟨fun _ _ => trivial, hK e _ (hphQ e rfl (fun _ _ => rfl) id _ ?_)⟩
    exact (hp.sim.put (v := .raw (.tuple #[])) (u := undef) hdk (by rw [Rep]; rfl)).congr hslst (by cases o.dst <;> rfl) (by cases o.dst <;> rfl)
  | eff v H' =>
    obtain ⟨hg, k, o0, ob, hik, hkl, hk0, hH', heff⟩ := hdeed
    have hw : Region.wanted o (yielded ops a.tmps) = true := by unfold Region.wanted; rw [hg]
    rw [if_pos hw]
    have hacti : acts ix «as» i k := ⟨⟨v, H', hx'⟩, hik⟩
    have hbefore : ∀ j, j < i → acts ix «as» j k → isIn listed j = true := fun j hj hact => readyC hc hsz hcl hi (by omega) (hix.ord i j k hik hact.2 hj)
    have hafter : ∀ j, i < j → acts ix «as» j k → isIn listed j = false := fun j hj hact => by
      cases hb : isIn listed j with
      | false => rfl
      | true =>
        obtain ⟨⟨v', H2, h6⟩, h7⟩ := hact
        obtain ⟨o', ho', _, _⟩ := hT.at_ j _ h6
        have := hcl j i (Array.getElem?_eq_some_iff.1 ho').1 hin hb (hix.ord j i k h7 hik hj)
        rw [hnl] at this; cases this
    have hHk : e.H[k]? = some o0 := by
      obtain ⟨m, h1, h2, h3, h4⟩ := hp.old k hkl
      have := hx_eq hT hkl (m := m) (n := i) (fun j hj hact => by
        rcases hj with ⟨h5, h6⟩ | ⟨h5, h6⟩
        · have h7 := hbefore j h6 hact; rw [h4 j h5 hact] at h7; cases h7
        · rcases Nat.lt_or_ge i j with q | q
          · have h7 := hafter j q hact; rw [h3 j h6 hact] at h7; cases h7
          · have : j = i := by omega
            subst this
            have h7 := h3 j h6 hact; rw [hnl] at h7; cases h7)
      rw [h2, ← this]; exact hk0
    refine heff ⟨slL sf s ops listed, e.H, s.df⟩ e a hp.sim hHk (stA_df ops «as» s i).symm hopeq K (fun e' a' hs' hμ' => ?_)
    have he' : e'.H = e.H.set k ob := by rw [hs'.H]; cases o.dst <;> rfl
    refine hK e' a' ⟨?_, by rw [he', List.length_set]; exact hp.len, fun q hq => ?_, fun kk l id hkk => ?_⟩
    · refine hs'.congr (fun t => ?_) (by simp only [he']; cases o.dst <;> rfl) (by cases o.dst <;> rfl)
      rw [slF_step hT.toTxF hc hsz hin hx' ho (e.H.set k ob) s.df t]; rfl
    · by_cases hqk : q = k
      · subst hqk
        refine ⟨i + 1, hin, ?_, fun j hj hact => ?_, fun j hj hact => ?_⟩
        · have e0 : hx ops «as» s (i + 1) = H' := stA_heap hx'
          have h5 : q < (stk ops 0 «as» s i).H.length := lt_of_get? hk0
          rw [he', e0, hH', List.getElem?_set_self (by have := lt_of_get? hHk; exact this), List.getElem?_set_self h5]
        · rw [hset]
          rcases Nat.lt_or_ge j i with h | h
          · rw [hbefore j h hact]; rfl
          · have : j = i := by omega
            simp [this]
        · rw [hset, hafter j (by omega) hact]; simp; omega
      · obtain ⟨m, h1, h2, h3, h4⟩ := hp.old q hq
        refine ⟨m, h1, by rw [he', List.getElem?_set_ne (Ne.symm hqk)]; exact h2, fun j hj hact => by rw [hset, h3 j hj hact]; rfl, fun j hj hact => ?_⟩
        have hji : j ≠ i := fun e => by subst e; exact hqk (hix.fn j q k hact.2 hik)
        rw [hset, h4 j hj hact]; simpa using hji
    · have hki : kk ≠ i := fun e => by subst e; rw [hx'] at hkk; cases hkk
      have hdec : decide (kk = i) = false := by simpa using hki
      have hkN : kk < ops.size := by have := lt_of_get? hkk; rw [hT.len] at this; exact this
      have hidk : id ≠ k := by have := ((hx_len hT ops.size).2.1 kk l id hkN hkk).1; omega
      rw [hset, hdec, Bool.or_false, he', List.getElem?_set_ne (Ne.symm hidk), hμ' id hidk]
      exact hp.new kk l id hkk
  | fresh l id =>
    obtain ⟨hg, hid, hfr⟩ := hdeed
    have hw : Region.wanted o (yielded ops a.tmps) = true := by unfold Region.wanted; rw [hg]
    rw [if_pos hw]
    obtain ⟨hdead, hμ⟩ := (hp.new i l id hx').2 hnl
    have hidl := lt_of_get? hdead
    have hidg := ((hx_len hT ops.size).2.1 i l id hin hx').1
    refine hfr ⟨slL sf s ops listed, e.H, s.df⟩ e a hp.sim (fun q o1 hq => by simp at hq) hops hdead hμ K (fun e' a' hs' hμ' => ?_)
    have he' : e'.H = e.H.set id l.1 := by rw [hs'.H]; cases o.dst <;> rfl
    refine hK e' a' ⟨?_, by rw [he', List.length_set]; exact hp.len, fun q hq => ?_, fun kk l' id' hkk => ?_⟩
    · refine hs'.congr (fun t => ?_) (by simp only [he']; cases o.dst <;> rfl) (by cases o.dst <;> rfl)
      rw [slF_step hT.toTxF hc hsz hin hx' ho (e.H.set id l.1) s.df t]; rfl
    · obtain ⟨m, h1, h2, h3, h4⟩ := hp.old q hq
      refine ⟨m, h1, by rw [he', List.getElem?_set_ne (by omega)]; exact h2, fun j hj hact => by rw [hset, h3 j hj hact]; rfl, fun j hj hact => ?_⟩
      have hji : j ≠ i := fun e => by subst e; obtain ⟨⟨v, H', h5⟩, _⟩ := hact; rw [hx'] at h5; cases h5
      rw [hset, h4 j hj hact]; simpa using hji
    · rw [hset]
      by_cases hki : kk = i
      · subst hki
        rw [hx'] at hkk; simp only [Option.some.injEq, Act4.fresh.injEq] at hkk
        obtain ⟨rfl, rfl⟩ := hkk
        exact ⟨fun _ => by rw [he', List.getElem?_set_self hidl], fun h => by simp at h⟩
      · have hne : id' ≠ id := fresh_ne hT hkk hx' hki
        have : decide (kk = i) = false := by simpa using hki
        rw [this, Bool.or_false]
        obtain ⟨q1, q2⟩ := hp.new kk l' id' hkk
        refine ⟨fun h => ?_, fun h => ?_⟩
        · rw [he', List.getElem?_set_ne (Ne.symm hne)]; exact q1 h
        · obtain ⟨q3, q4⟩ := q2 h
          rw [he', List.getElem?_set_ne (Ne.symm hne), hμ' id' (lt_of_get? q3) hne]; exact ⟨q3, q4⟩
/-- **A region that draws its order**, whose changes act on one object each. ix: which one changes which object. -/
theorem aw_drawl {id : Nat} {Q : AExit → St → Prop} {l : List Oper} (ix : List (Nat × Nat)) {s : St} (hm : c.P.follows .mixedOrders = true) (hok : drawOKl l.toArray ix = true) (h : DL c s.H l.toArray ix Q 0 l s) :
    AWP c (.region id l.toArray true) Q s := by
  obtain ⟨«as», sf, hlen, hval, hQ⟩ := h (Nat.zero_le _) (by simp)
  generalize l.toArray = ops at *
  have hlen : «as».length = ops.size := by omega
  unfold drawOKl at hok
  rw [Bool.and_eq_true] at hok
  have hc := chkC_of hok.1
  have hix := ixOK_of hok.2
  have hT : TxL c Q ops ix s sf «as» := ⟨⟨hlen, by rw [dvl_fin «as» 0 s sf s.H hval, hlen]⟩, fun k x hk => by have := dvl_at «as» 0 s sf s.H hval k x hk; simpa only [Nat.zero_add] using this⟩
  intro e a hs
  refine wpIn_region_any hm ?_
  obtain ⟨e1, hw1, hp1⟩ := pl_start hT hs ops.size
  rw [← hw1]
  have fin : ∀ (listed : Array Bool) (e : Env) (a : Act), (∀ j, j < ops.size → isIn listed j = true) → PL c ops ix «as» s sf listed e a → lift c Q .normal a e.w := by
    intro listed e a hall hp
    have hsl : ∀ t, sget sf.sl t = sget (slL sf s ops listed) t := fun t => by
      by_cases hex : ∃ j, j < ops.size ∧ dstOf ops j = some t
      · obtain ⟨j, h1, h2⟩ := hex
        rw [slL_in h1 (hall j h1) h2]
      · rw [slL_out (fun j h1 _ h2 => hex ⟨j, h1, h2⟩), hT.fin]
        have := stA_between (ops := ops) («as» := «as») (s := s) (k := 0) (t := t) ops.size (fun j _ h1 h2 => hex ⟨j, by omega, h2⟩)
        rw [Nat.zero_add, stA_zero] at this
        exact this
    have hH : sf.H = e.H := by
      have hf : sf.H = hx ops «as» s ops.size := by rw [hT.fin]; rfl
      rw [hf]
      apply List.ext_getElem?
      intro q
      rcases Nat.lt_or_ge q s.H.length with hq | hq
      · obtain ⟨m, h1, h2, h3, h4⟩ := hp.old q hq
        rw [h2]
        exact hx_eq hT hq (fun j hj hact => by
          have hact2 := hact
          obtain ⟨⟨v, H', h5⟩, _⟩ := hact2
          have hjn : j < ops.size := by have := lt_of_get? h5; rw [hT.len] at this; exact this
          rcases hj with ⟨h6, h7⟩ | ⟨h6, h7⟩
          · have h8 := h4 j h6 hact; rw [hall j hjn] at h8; cases h8
          · omega)
      · rcases Nat.lt_or_ge q (hx ops «as» s ops.size).length with hq2 | hq2
        · obtain ⟨j, l, h1, h2⟩ := (hx_len hT ops.size).2.2 q hq hq2
          rw [((hx_len hT ops.size).2.1 j l q h1 h2).2.2, (hp.new j l q h2).1 (hall j h1)]
        · rw [List.getElem?_eq_none hq2, List.getElem?_eq_none (by rw [hp.len]; exact hq2)]
    refine ⟨.normal, sf, e, hQ, rfl, hp.sim.congr hsl hH ?_, rfl⟩
    rw [hT.fin]; exact stA_df ops «as» s ops.size
  have key : ∀ (fuel : Nat) (listed : Array Bool) (e : Env) (a : Act), left listed ops.size ≤ fuel → listed.size = ops.size → Closed ops (Region.before ops) listed → PL c ops ix «as» s sf listed e a →
      wpAnyIn (FW c.r) 0 c.P .any ops (lift c Q) fuel listed a e.w := by
    intro fuel
    have hready : ∀ (listed : Array Bool), listed.size = ops.size → Region.ready .any ops listed = [] → ∀ j, j < ops.size → isIn listed j = true := by
      intro listed hsz hnone j
      induction j using Nat.strongRecOn with
      | _ n ihn =>
        intro hn
        cases hb : isIn listed n with
        | true => rfl
        | false =>
          have : n ∈ Region.ready .any ops listed := (mem_ready' hsz).2 ⟨hn, hb, fun o ho ed he hbd => by
            have := hc.edges n o ho ed he hbd
            exact ihn ed.on this (by omega)⟩
          rw [hnone] at this; cases this
    induction fuel with
    | zero =>
      intro listed e a hf hsz hcl hp
      have hall := left_zero (listed := listed) ops.size (by omega)
      refine ⟨?_, fin listed e a hall hp⟩
      apply List.eq_nil_iff_forall_not_mem.2
      intro i hi
      obtain ⟨h1, h2, _⟩ := (mem_ready' hsz).1 hi
      rw [hall i h1] at h2; cases h2
    | succ fuel ih =>
      intro listed e a hf hsz hcl hp
      refine ⟨fun hnone => fin listed e a (hready listed hsz hnone) hp, fun i hi => ?_⟩
      obtain ⟨hin, hif, _⟩ := (mem_ready' hsz).1 hi
      refine pl_step hT hc rfl hix hsz hcl hi hp (fun e' a' hp' => ih _ e' a' ?_ (by simpa using hsz) (closedC hc hsz hcl hi) hp')
      have := left_set (by omega) hif ops.size hin; omega
  refine key ops.size (Array.replicate ops.size false) e1 a ?_ (by simp) (fun j k _ _ h => ?_) hp1
  · rw [left_init ops.size ops.size (Nat.le_refl _)]; exact Nat.le_refl _
  · unfold isIn at h; rw [Array.getD_eq_getD_getElem?, Array.getElem?_replicate] at h; split at h <;> cases h
end main
section eff
variable {c : Ctx} {Q : AExit → St → Prop} {df : List ADef} {ρ : Operand → AV} {d : Option Tmp} {t : TypeId} {p : String} {af : Array Edge}
theorem effl_store {st : TypeId} {x y : Operand} {a : AV} {j off n : Nat} {bb : Bool} {l m : List AV} (hd : dOK c.nt d = true)
    (hx : Less (ρ x) (.ptr j off)) (hy : Less (ρ y) a) (hm : a.cells = some m) (ht : tySz c.P st = some (bb, n)) (hn : Nat.beq m.length n = true) (hle : Nat.ble (off + n) l.length = true) :
    EffL c Q ⟨d, .store st x y, t, p, af, none⟩ j (.cells l) (.cells (l.take off ++ m ++ l.drop (off + m.length))) df ρ .any := by
  intro s e ac hs hj _ hop next hK
  have hx : Less (s.op x) (.ptr j off) := by rw [hop x (by simp [Op.operands])]; exact hx
  have hy : Less (s.op y) a := by rw [hop y (by simp [Op.operands])]; exact hy
  have hn := Nat.eq_of_beq_eq_true hn
  have hle := Nat.le_of_ble_eq_true hle
  obtain ⟨h1, h2⟩ := rep_cells (hy e _ (hs.op y)) hm
  have hp := hx e _ (hs.op x)
  rw [Rep] at hp
  obtain ⟨a1, a2, b, hb, hpv⟩ := hp
  obtain ⟨b', cs, ct, k1, k2, k3, k4, k5⟩ := hs.ok.objs j _ (by rw [hs.H]; exact hj)
  rw [hb] at k1; cases k1
  have hl1 := h1.length
  have hl4 := k4.length
  have hrun := run_storeVar (P := c.P) (w := e.w) (off := off) (v := ac.eval y) k3 ht (by simpa [hn] using hl1) (by simp at hl4; omega) h2
  have hsim := hs.setObj (l := l.take off ++ m ++ l.drop (off + m.length)) (cs := (cs.toList.take off ++ (ac.eval y).cells.toList ++ cs.toList.drop (off + (ac.eval y).cells.toList.length)).toArray) hj hb k2 k3
    (by simpa using RepL.splice k4 h1 off) (by
      intro z hz
      simp only [List.mem_append] at hz
      rcases hz with (hz | hz) | hz
      · exact k5 z (List.mem_of_mem_take hz)
      · exact h2 z hz
      · exact k5 z (List.mem_of_mem_drop hz))
  refine ⟨about_FW _ _ _ _ _, ?_⟩
  show Oper.uponIn (FW c.r) 0 c.P _ ac next (lift c Q) (((Oper.semAt c.r ac.eval ⟨d, .store st x y, t, p, af, none⟩)).run c.P e.w)
  rw [semAt_of (by intro c h; cases h)]
  have : (execOp ac.eval ⟨d, .store st x y, t, p, af, none⟩).run c.P e.w = .ok .skip (e.w.setRow b (cs.toList.take off ++ (ac.eval y).cells.toList ++ cs.toList.drop (off + (ac.eval y).cells.toList.length)).toArray) := by
    simp [execOp, Instr.storeAt, hpv, Instr.sureAddr, hrun]
  rw [this]
  exact hK _ _ (hsim.put hd (by rw [Rep]; trivial)) (fun q _ => rfl)
theorem fresh_make {Hc : List AObj} {st : TypeId} {x y : Operand} {n id : Nat} {cs : List Value} (hd : dOK c.nt d = true) (hf : makeB c.P st n = some cs) (hn : n ≤ 1000000)
    (hx : Less (ρ x) (.raw (.int .i64 n))) (hy : Less (ρ y) (.raw (.int .i64 n))) :
    FreshOK c Q Hc ⟨d, .makeSlice st x y, t, p, af, none⟩ ρ id (.cells (cs.map .raw)) (.msl id 0 n n) := by
  intro s e a hs _ hops hdead hμ K hK
  have hdead : e.H[id]? = some .dead := by rw [hs.H]; exact hdead
  have hu := rep_raw hx (hops x (by simp [Op.operands]))
  have hv := rep_raw hy (hops y (by simp [Op.operands]))
  obtain ⟨et, ti, z, k1, k2, k3, k4, k5, k6⟩ := makeB_ex hf
  have hrun := run_make (P := c.P) e.w st et ti z k1 k2 k3 .i64 .i64 (n : Int) (n : Int) (by omega) (Int.le_refl _) (by rw [← Int.natCast_mul]; omega) (by omega)
  simp only [Int.toNat_natCast] at hrun
  have hrl : RepL e (cs.map .raw) (madeCells z.cells (n * ti.size)).toList := by rw [k5]; exact RepL.raws cs
  have hcell : ∀ q ∈ (madeCells z.cells (n * ti.size)).toList, isCell q = true := by
    rw [k5]; exact fun q hq => List.all_eq_true.1 k6 q hq
  obtain ⟨ok', fr'⟩ := Env.place_ok (bt := et) hs.ok hs.fr hdead hμ hrl hcell
  have le := Env.place_le hs.ok (l := cs.map .raw) (ob := .cells (madeCells z.cells (n * ti.size)) et) hdead hμ
  have hidl := lt_of_get? hdead
  refine ⟨about_FW _ _ _ _ _, ?_⟩
  show Oper.uponIn (FW c.r) 0 c.P _ a K (lift c Q) (((Oper.semAt c.r a.eval ⟨d, .makeSlice st x y, t, p, af, none⟩)).run c.P e.w)
  rw [semAt_of (by intro c h; cases h)]
  have hex : (execOp a.eval ⟨d, .makeSlice st x y, t, p, af, none⟩).run c.P e.w = ((Instr.makeSlice st (.int .i64 n) (.int .i64 n)).run c.P e.w).andThen fun v w'' => .ok (.value v) w'' := by
    simp [execOp, hu, hv]
  rw [hex, hrun]
  have hsim0 : Sim c { s with H := s.H.set id (.cells (cs.map .raw)) } (e.place id (cs.map .raw) (.cells (madeCells z.cells (n * ti.size)) et)) a :=
    ⟨hs.size, fun t => Rep.mono le _ (hs.slots t), hs.defers.mono le, by simp [Env.place, hs.H], ok', fr'⟩
  refine hK _ _ (hsim0.put hd ?_) fun j _ hne => by simp [Env.place, hne]
  rw [Rep]
  exact ⟨by simpa [Env.place] using hidl, by rw [Env.place_T hdead]; unfold Env.T; rw [hdead]; rfl, e.w.heap.size, by simp [Env.place], rfl, Nat.le_refl _⟩
end eff
end Go.Ab
namespace Go.Ab
variable [Tabs]
theorem AQuiet.lend2 {P : Program} {f : FuncId} {args args' : List AV} {res : AV} {j n c sz : Nat} {es : List (List AV)} {rest : List AV} {H : List AObj}
    (hc : AQuiet P f args (H.set j .dead) res) (hr : res.flat = true) (hlend : FzL j n c sz es args' args)
    (hj : H[j]? = some (.cells (es.flatten ++ rest))) (hn : es.length = n) (hsz : ∀ q ∈ es, q.length = sz) : AQuiet P f args' H res := by
  intro e vs ok hH hargs
  have hlen := hargs.length
  have hje := pre_get hH hj
  have hjl := lt_of_get? hje
  have hsim : Sim ⟨P, none, vs.size, e⟩ ⟨slotsOf 0 args', e.H, []⟩ e { tmps := vs, defers := [] } := by
    refine ⟨rfl, fun t => ?_, DRepL.nil, rfl, ok, Fr.refl e⟩
    rw [get_slotsOf]
    simp only [Nat.zero_le, if_true, Nat.sub_zero]
    cases hat : args'[t]? with
    | none => simp only [Option.getD_none]; rw [Rep]; trivial
    | some q =>
      obtain ⟨u, k1, k2⟩ := hargs.get t q hat
      have : vs.getD t undef = u := by
        rw [Array.getD_eq_getD_getElem?]
        have : vs[t]? = some u := by simpa using k1
        rw [this]; rfl
      rw [this]; exact k2
  have hal : ∀ {l' l : List AV}, FzL j n c sz es l' l → l'.length = l.length := by
    intro l' l h; induction h with
    | nil => rfl
    | cons _ _ ih => simp [ih]
  obtain ⟨e1, hw1, hs1⟩ := sub_freeze (c := ⟨P, none, vs.size, e⟩) (s := ⟨slotsOf 0 args', e.H, []⟩) (j := j) (n := n) (cap := c) (sz := sz) (es := es) (rest := rest) (sl' := slotsOf 0 args) (H' := e.H.set j .dead) hje hn hsz (slotsOf_fz 0 hlend)
    (by
      have rst : ∀ (H : List AObj) (m : Nat), j < m → FzH j n c sz es m H H := by
        intro H
        induction H with
        | nil => exact fun m _ => FzH.nil m
        | cons o H ih => exact fun m hm => FzH.same o (by omega) (ih (m + 1) (by omega))
      have key : ∀ (H : List AObj) (m q : Nat), j = m + q → FzH j n c sz es m H (H.set q .dead) := by
        intro H
        induction H with
        | nil => exact fun m q _ => FzH.nil m
        | cons o H ih =>
          intro m q hq
          cases q with
          | zero => exact FzH.dead o (by omega) (rst H (m + 1) (by omega))
          | succ q => exact FzH.same o (by omega) (ih (m + 1) q (by omega))
      exact key e.H 0 j (by omega)) e { tmps := vs, defers := [] } hsim
  have hargs1 : RepL e1 args vs.toList := by
    have hl2 := hal hlend
    have key : ∀ (l : List AV) (k : Nat) (us : List Value), us.length = l.length → (∀ t, t < l.length → Rep e1 (sget (slotsOf k l) (k + t)) (us.getD t undef)) → RepL e1 l us := by
      intro l
      induction l with
      | nil => intro k us h _; rw [RepL]; exact List.length_eq_zero_iff.1 h
      | cons q l ih =>
        intro k us h hh
        cases us with
        | nil => simp at h
        | cons u us =>
          refine RepL.cons ?_ (ih (k + 1) us (by simpa using h) fun t ht => ?_)
          · have := hh 0 (by simp)
            simpa [slotsOf, sget] using this
          · have := hh (t + 1) (by simpa using ht)
            simp only [slotsOf, sget] at this
            have hne : (k == k + (t + 1)) = false := by simp
            rw [hne] at this
            rw [show k + 1 + t = k + (t + 1) by omega]
            simpa using this
    refine key args 0 vs.toList (by simpa using hlen.trans hl2) fun t ht => ?_
    have := hs1.slots t
    rw [Nat.zero_add]
    have e2 : vs.toList.getD t undef = vs.getD t undef := by rw [List.getD_eq_getElem?_getD, Array.getD_eq_getD_getElem?, Array.getElem?_toList]
    rw [e2]; exact this
  have hsub : HSub (H.set j .dead) e1.H := by
    rw [hs1.H]
    intro i o ho hn
    rcases Nat.decEq i j with q | q
    · rw [List.getElem?_set_ne (Ne.symm q)] at ho ⊢
      exact hH i o ho hn
    · subst q
      have hl : i < H.length := by have := lt_of_get? ho; simpa using this
      rw [List.getElem?_set_self hl] at ho
      rw [List.getElem?_set_self hjl]; exact ho
  have := hc e1 vs hs1.ok hsub hargs1
  rw [hw1] at this
  refine CallsIn.mono (F := FW none) (n := 0) this ?_
  rintro x w' ⟨u, e2, rfl, rfl, hxt, hu⟩
  have hsz2 : e.w.heap.size ≤ e2.w.heap.size := by have := hxt.size; rw [hw1] at this; exact this
  refine ⟨u, { H := e.H, μ := e.μ, G := fun b => if b < e.w.heap.size then e.G b else e2.G b, w := e2.w }, rfl, rfl, ⟨rfl, fun _ _ => rfl, hsz2, hw1 ▸ hxt.still, fun b hb => ?_, fun b hb => by simp [hb], fun b hb => ?_⟩, rep_flat hr hu⟩
  · have := hxt.heap b (by rw [hw1]; exact hb)
    rw [hw1] at this; exact this
  · have : ¬ b < e.w.heap.size := by simp only at hb; omega
    simp only [this, if_false]; exact hxt.fresh b hb
end Go.Ab
namespace Go.Ab
structure KeyT (P : Program) (kt : TypeId) {κ : Type} (ok : κ → Prop) (kv : κ → Value) : Prop where
  chk : ∀ b k (w : World), ok k → (Instr.checkKey b 10000 kt (kv k)).run P w = .ok () w
  eq : ∀ k k' (w : World), ok k → ok k' → ∃ r : Bool, (Op.equal kt (kv k) (kv k')).run P w = .ok r w ∧ (r = true ↔ k = k')
  ask : ∃ d, P.underlying kt = some d ∧ ∀ k k', Instr.sameNow d (kv k) (kv k') = none
abbrev unitV : Value := .agg #[]
def kmap {κ : Type} (kv : κ → Value) (l : List κ) : List (Value × Value) := l.map fun k => (kv k, unitV)
variable [Tabs]
theorem run_findAsking {P : Program} {kt : TypeId} {κ : Type} [DecidableEq κ] {ok : κ → Prop} {kv : κ → Value} (K : KeyT P kt ok kv) {k : κ} (hk : ok k) {w : World} : ∀ {es : List MapEntry} {l : List κ} (i : Nat), (∀ x ∈ l, ok x) → es.map (fun x => (x.key, x.val)) = kmap kv l →
    (Instr.findAsking kt (kv k) es i).run P w = .ok ((l.findIdx? fun x => decide (k = x)).map fun j => (i + j, unitV)) w
  | [], l, i, _, h => by
    have : l = [] := by simpa [kmap] using h.symm
    subst this; simp [Instr.findAsking]
  | e :: es, [], i, _, h => by simp [kmap] at h
  | e :: es, x :: l, i, ho, h => by
    simp only [kmap, List.map_cons, List.cons.injEq, Prod.mk.injEq] at h
    obtain ⟨⟨h1, h2⟩, h3⟩ := h
    have ih := run_findAsking K hk (w := w) (es := es) (l := l) (i + 1) (fun y hy => ho y (List.mem_cons_of_mem _ hy)) (by simpa [kmap] using h3)
    obtain ⟨r, hr, hi⟩ := K.eq k x w hk (ho x List.mem_cons_self)
    simp only [Instr.findAsking, h1, Sem.run_bind, hr, Result.andThen_ok]
    cases r with
    | true =>
      have hx : k = x := hi.1 rfl
      simp [List.findIdx?_cons, hx, h2]
    | false =>
      have hx : k ≠ x := fun q => by have := hi.2 q; cases this
      simp only [Bool.false_eq_true, if_false, ih, List.findIdx?_cons, hx, decide_false, Option.map_map]
      congr 1
      cases l.findIdx? fun x => decide (k = x) with
      | none => rfl
      | some j => simp [Nat.add_assoc, Nat.add_comm 1 j]
theorem run_findKeyK {P : Program} {kt : TypeId} {κ : Type} [DecidableEq κ] {ok : κ → Prop} {kv : κ → Value} (K : KeyT P kt ok kv) {k : κ} (hk : ok k) {w : World} {es : List MapEntry} {l : List κ} (ho : ∀ x ∈ l, ok x) (he : es.map (fun x => (x.key, x.val)) = kmap kv l) :
    (Instr.findKey kt (kv k) es).run P w = .ok ((l.findIdx? fun x => decide (k = x)).map fun j => (j, unitV)) w := by
  have hz : (fun j => (0 + j, unitV)) = fun j => (j, unitV) := by funext j; rw [Nat.zero_add]
  have hf := run_findAsking K hk (w := w) 0 ho he
  rw [hz] at hf
  obtain ⟨d, hd, hs⟩ := K.ask
  cases es with
  | nil =>
    have : l = [] := by simpa [kmap] using he.symm
    subst this; simp [Instr.findKey, run_und hd, Instr.findNow]
  | cons e es =>
    cases l with
    | nil => simp [kmap] at he
    | cons x l =>
      have h1 : e.key = kv x := by
        simp only [kmap, List.map_cons, List.cons.injEq, Prod.mk.injEq] at he; exact he.1.1
      simp only [Instr.findKey, Sem.run_bind, run_und hd, Result.andThen_ok, Instr.findNow, h1, hs]
      exact hf
section seq
variable {c : Ctx} {ops : Array Oper} {Q : AExit → St → Prop} {rest : List Oper} {s : St} {i : Nat}
variable {d : Option Tmp} {t : TypeId} {p : String} {af : Array Edge}
theorem sq_mapUpdateK {mt kt et : TypeId} {x y z : Operand} {j : Nat} {κ : Type} [DecidableEq κ] {ok : κ → Prop} {kv : κ → Value} {l : List κ} {n : κ} (hd : dOK c.nt d = true) (hmt : mapTy c.P mt = some (kt, et)) (K : KeyT c.P kt ok kv)
    (hx : Less (s.op x) (.mp j)) (hy : Less (s.op y) (.raw (kv n))) (hz : Less (s.op z) (.raw unitV)) (hj : s.H[j]? = some (.map (kmap kv l))) (hn0 : ok n) (ho : ∀ x ∈ l, ok x) (hno : n ∉ l)
    (k : SeqWP c ops Q (i + 1) rest (St.put { s with H := s.H.set j (.map (kmap kv (l ++ [n]))) } d .any)) : SeqWP c ops Q i (⟨d, .mapUpdate mt x y z, t, p, af, none⟩ :: rest) s := by
  refine sq_op fun e a hs next hn => ?_
  have hxr := hx e _ (hs.op x)
  rw [Rep] at hxr
  obtain ⟨h1, h2, b, hb, hxv⟩ := hxr
  have hyv := rep_raw hy (hs.op y)
  have hzv := rep_raw hz (hs.op z)
  obtain ⟨b', ents, cl, hb', hh, hents⟩ := hs.ok.objs j _ (by rw [hs.H]; exact hj)
  rw [hb] at hb'; cases hb'
  have hg : ∀ o : Obj, (setObj b o).run c.P e.w = .ok () (e.w.putObj b o) := fun o => by simp [setObj, Sem.run, hh, World.putObj]
  have hgo : (getObj b).run c.P e.w = .ok (.map ents cl) e.w := by simp [getObj, Sem.run, hh]
  have hfk := run_findKeyK (w := e.w) K hn0 ho hents
  have hf : l.findIdx? (fun x => decide (n = x)) = none := by
    rw [List.findIdx?_eq_none_iff]; intro y hy; exact decide_eq_false fun q => hno (q ▸ hy)
  rw [hf] at hfk
  obtain ⟨ents', cl', hrun, hes⟩ : ∃ ents' cl', (Instr.mapUpdate mt (.map (some b)) (kv n) unitV).run c.P e.w = .ok () (e.w.putObj b (.map ents' cl')) ∧ ents'.toList.map (fun x => (x.key, x.val)) = kmap kv (l ++ [n]) := by
    refine ⟨ents.push { key := kv n, val := unitV, born := cl }, cl + 1, ?_, ?_⟩
    · simp [Instr.mapUpdate, run_und (mapTy_eq hmt), hgo, K.chk _ _ _ hn0, hfk, hg]
    · simp [hents, kmap]
  refine ⟨about_FW _ _ _ _ _, ?_⟩
  show Oper.uponIn (FW c.r) 0 c.P _ a next (lift c Q) ((Oper.semAt c.r a.eval ⟨d, .mapUpdate mt x y z, t, p, af, none⟩).run c.P e.w)
  rw [semAt_of (by intro c h; cases h)]
  have : (execOp a.eval ⟨d, .mapUpdate mt x y z, t, p, af, none⟩).run c.P e.w = .ok .skip (e.setMap j b (kmap kv (l ++ [n])) (.map ents' cl')).w := by
    simp [execOp, hxv, hyv, hzv, hrun, Env.setMap]
  rw [this]
  exact hn _ _ _ k ((setMap_sim hs hj hb hh hes).put hd (by rw [Rep]; trivial))
end seq
section ev
variable {P : Program} {r : Option Nat} {H : List AObj} {ρ : Operand → AV}
variable {d : Option Tmp} {t : TypeId} {p : String} {af : Array Edge} {g : Option (Nat × Bool)}
theorem ev_lookupK {mt kt et : TypeId} {x y : Operand} {j : Nat} {κ : Type} [DecidableEq κ] {ok : κ → Prop} {kv : κ → Value} {l : List κ} {n : κ} (hmt : mapTy P mt = some (kt, et)) (K : KeyT P kt ok kv) (hz : zeroOf P et = some [])
    (hx : Less (ρ x) (.mp j)) (hy : Less (ρ y) (.raw (kv n))) (hj : H[j]? = some (.map (kmap kv l))) (hn0 : ok n) (ho : ∀ x ∈ l, ok x) : Ev P r ⟨d, .lookup mt x y true, t, p, af, g⟩ H ρ (.tup [.agg [], .raw (.bool (decide (n ∈ l)))]) :=
  Ev.pure (by intro c h; cases h) fun e ρc ok hE hs => by
    have hxr := hx e _ (hs x (by simp [Op.operands]))
    rw [Rep] at hxr
    obtain ⟨h1, h2, b, hb, hxv⟩ := hxr
    have hyv := rep_raw hy (hs y (by simp [Op.operands]))
    obtain ⟨b', ents, cl, hb', hh, hents⟩ := ok.objs j _ (hE j _ hj (fun n e => by cases e))
    rw [hb] at hb'; cases hb'
    have hgo : (getObj b).run P e.w = .ok (.map ents cl) e.w := by simp [getObj, Sem.run, hh]
    have hfk := run_findKeyK (w := e.w) K hn0 ho hents
    obtain ⟨z0, hz0, hzc, _⟩ := zeroOf_run hz
    have hz1 : z0 = .agg #[] := by
      have : z0.cells.toList = [] := by simpa using hzc.symm
      cases z0 <;> simp [Value.cells] at this
      rw [this]
    have hunit : Rep e (.agg []) (.agg #[]) := by rw [Rep]; exact ⟨#[], rfl, RepL.nil, by simp⟩
    cases hf : l.findIdx? (fun x => decide (n = x)) with
    | none =>
      rw [hf] at hfk
      have hany : decide (n ∈ l) = false := by
        rw [List.findIdx?_eq_none_iff] at hf
        exact decide_eq_false fun hy => by have := hf n hy; simp at this
      refine ⟨.tuple #[z0, .bool false], ?_, ?_⟩
      · simp [execOp, Instr.lookup, hxv, hyv, run_und (mapTy_eq hmt), hgo, K.chk _ _ _ hn0, hfk, hz0]
      · rw [hany, Rep, hz1]; exact ⟨_, rfl, RepL.cons hunit (RepL.cons (by rw [Rep]) RepL.nil)⟩
    | some q =>
      rw [hf] at hfk
      have hany : decide (n ∈ l) = true := by
        rw [List.findIdx?_eq_some_iff_getElem] at hf
        obtain ⟨hql, hqn, _⟩ := hf
        rw [decide_eq_true_eq] at hqn ⊢; rw [hqn]; exact List.getElem_mem hql
      refine ⟨.tuple #[unitV, .bool true], ?_, ?_⟩
      · simp [execOp, Instr.lookup, hxv, hyv, run_und (mapTy_eq hmt), hgo, K.chk _ _ _ hn0, hfk]
      · rw [hany, Rep]; exact ⟨_, rfl, RepL.cons hunit (RepL.cons (by rw [Rep]) RepL.nil)⟩
end ev
theorem keyT_of {P : Program} {kt : TypeId} {κ : Type} {ok : κ → Prop} {kv : κ → Value} {fs : Array Field} {m D : Nat} (hm : m ≤ 10000) (hu : P.underlying kt = some (.struct fs)) (hk : P.keyTypeAt m kt = true) (lits : κ → List Lit)
    (hl : ∀ k, ok k → (kv k).formed P kt = true ∧ P.keyLits D kt (kv k).cells.toList = some (lits k)) (hi : ∀ k k', ok k → ok k' → lits k = lits k' → k = k') : KeyT P kt ok kv := by
  refine ⟨fun b k w ho => ?_, fun k k' w ho ho' => ?_, ⟨_, hu, fun k k' => ?_⟩⟩
  · have h := run_checkKey_deep (P := P) b (10000 - m) m kt hk
    rw [show 10000 - m + m = 10000 by omega] at h
    exact h _ _ _ _ (hl k ho).1 (hl k ho).2
  · have h := run_equalIn_deep (P := P) (10000 - m) m kt hk
    rw [show 10000 - m + m = 10000 by omega] at h
    obtain ⟨r, h1, h2⟩ := h w D D (kv k) (kv k') (lits k) (lits k') (hl k ho).1 (hl k' ho').1 (hl k ho).2 (hl k' ho').2
    exact ⟨r, h1, h2.trans ⟨fun q => hi k k' ho ho' q, fun q => by rw [q]⟩⟩
  · rfl
end Go.Ab
namespace Go.Ab
open Go.Sort
variable [Tabs]
abbrev lisL (zs : List (List Int)) : List AV := zs.map fun z => AV.sl 1 (numE z)
abbrev lisE (zs : List (List Int)) : List (List AV) := zs.map fun z => [AV.sl 1 (numE z)]
theorem lisE_flat : ∀ l : List (List Int), (lisE l).flatten = lisL l
  | [] => rfl
  | x :: l => by show [AV.sl 1 (numE x)] ++ (lisE l).flatten = _; rw [lisE_flat l]; rfl
theorem lisE_sz {l : List (List Int)} : ∀ c ∈ lisE l, c.length = 1 := fun c hc => by obtain ⟨x, _, rfl⟩ := List.mem_map.1 hc; rfl
theorem putRow_isV {w : World} {b : Nat} {cs : Array Value} {t : TypeId} {fr : Nat × Nat} {ys : List Value} (hh : w.heap[b]? = some (.cells cs t fr)) (hl : ys.length ≤ cs.size) :
    putRow (fun v : Value => v) w b 0 ys.toArray = w.setRow b (ys ++ cs.toList.drop ys.length).toArray := by
  have e : putCells (fun v : Value => v) 0 ys.toArray cs = (ys ++ cs.toList.drop ys.length).toArray := by
    apply Array.ext_getElem?
    intro k
    simp only [putCells, Array.getElem?_mapIdx, List.getElem?_toArray, List.getElem?_append, List.getElem?_drop, List.size_toArray, Nat.zero_le, true_and, Nat.zero_add, Nat.sub_zero]
    by_cases hk : k < ys.length
    · rw [if_pos hk, List.getElem?_eq_getElem hk, Array.getElem?_eq_getElem (by omega)]
      simp [hk]
    · rw [if_neg hk, show ys.length + (k - ys.length) = k by omega]
      cases h2 : cs[k]? with
      | none => simp [h2]
      | some v => simp [h2, hk]
  unfold putRow
  have : ∀ f : Array Value → Array Value, f cs = (ys ++ cs.toList.drop ys.length).toArray → mapBlock w b f = w.setRow b (ys ++ cs.toList.drop ys.length).toArray := by
    intro f hf
    unfold mapBlock World.setRow
    congr 1
    apply Array.ext_getElem?
    intro k
    simp only [Array.getElem?_modify]
    by_cases hk : b = k
    · subst hk; simp [hh, onCells, hf]
    · simp [hk]
  exact this _ e
def LisAt (w : World) (b : Nat) (z : List Int) (h : Value) : Prop :=
  ∃ bk o c, h = .slice (some ⟨bk, o, none⟩) z.length c ∧ bk ≠ b ∧ bk < w.heap.size ∧ z.length ≤ c ∧ ∀ j, (hj : j < z.length) → w.cell? ⟨bk, o + j, none⟩ = some (.int .i64 z[j])
theorem cells_keep {e e3 : Env} {bk : Nat} (hG : e3.G bk = e.G bk) (hc : ∀ o, e3.w.cell? ⟨bk, o, none⟩ = e.w.cell? ⟨bk, o, none⟩) : ∀ {l : List Int} {o : Nat}, CellsAt e (numL l) bk o → CellsAt e3 (numL l) bk o
  | [], _, _ => by show CellsAt e3 [] bk _; rw [CellsAt]; trivial
  | x :: l, o, h => by
    have h : CellsAt e (AV.raw (.int .i64 x) :: numL l) bk o := h
    show CellsAt e3 (AV.raw (.int .i64 x) :: numL l) bk o
    rw [CellsAt] at h ⊢
    obtain ⟨⟨h1, v, h2, h3, h4⟩, h5⟩ := h
    exact ⟨⟨by rw [hG]; exact h1, v, by rw [hc]; exact h2, by rw [Rep] at h3 ⊢; exact h3, h4⟩, cells_keep hG hc h5⟩
theorem lis_repL {e : Env} : ∀ (ps : List (Value × List Int)), (∀ x ∈ ps, Rep e (.sl 1 (numE x.2)) x.1) → RepL e (lisL (ps.map Prod.snd)) (ps.map Prod.fst)
  | [], _ => RepL.nil
  | x :: ps, h => RepL.cons (h x List.mem_cons_self) (lis_repL ps fun y hy => h y (List.mem_cons_of_mem _ hy))
theorem lis_data {e : Env} {z : List Int} {v : Value} (hne : z ≠ []) (h : Rep e (.sl 1 (numE z)) v) : ∃ bk o c, v = .slice (some ⟨bk, o, none⟩) z.length c ∧ z.length ≤ c ∧ CellsAt e (numL z) bk o ∧ (∀ j, (hj : j < z.length) → o + j < e.G bk ∧ e.w.cell? ⟨bk, o + j, none⟩ = some (.int .i64 z[j])) := by
  rw [Rep] at h
  obtain ⟨a, len, cap, rfl, rfl, hle, hnil, _, hel⟩ := h
  have hl : (numE z).length = z.length := by simp
  rw [hl] at hle ⊢
  have hpos : 0 < z.length := List.length_pos_iff.2 hne
  cases a with
  | none => have := hnil rfl; omega
  | some ad =>
    obtain ⟨hsp, hel⟩ := hel ad rfl
    obtain ⟨bk, o, sp⟩ := ad
    have hsp := hsp (by omega); simp only at hsp; subst hsp
    have hc := ElemsAt.flat.1 hel
    rw [numE_flat] at hc
    refine ⟨bk, o, cap, rfl, hle, hc, fun j hj => ?_⟩
    have h3 := hel.get (sz := 1) j [.raw (.int .i64 z[j])] numE_sz (by simp [hj])
    rw [CellsAt] at h3
    obtain ⟨⟨h6, u, h4, h5, _⟩, _⟩ := h3
    rw [Rep] at h5; subst h5
    rw [Nat.mul_one] at h4 h6
    exact ⟨h6, h4⟩
section
variable {c : Ctx} {ops : Array Oper} {Q : AExit → St → Prop} {rest : List Oper} {s : St} {i : Nat}
variable {d : Option Tmp} {t : TypeId} {p : String} {af : Array Edge}
/-- **slices.SortFunc**, of a slice of lists that grew in a box: all else is given up, but for places and what is raw. -/
theorem sq_sort_b {x0 y z : Operand} {ats : Array TypeId} {f g : FuncId} {j k : Nat} {et : TypeId} {zs ys : List (List Int)} {sl' : List (Nat × AV)}
    (hd : dOK c.nt d = true) (he : Ent c.P f) (hx : Less (s.op x0) (.fn (.func f) [] []))
    (hy : s.op y = .ownb j 1 et (lisE zs)) (hz2 : Less (s.op z) (.fn (.func g) [] [])) (hj : s.H[j]? = some (.tok zs.length)) (hk : s.H[k]? = some (.cells [.ownb j 1 et (lisE zs)])) (hz : 0 < zs.length) (hne : ∀ q ∈ zs, q ≠ []) (hlen : ys.length = zs.length) (h0 : c.e0.H = [])
    (hc : ∀ (b cap : Nat) (w : World) (hv : List Value), hv.length = zs.length → zs.length ≤ cap → Holds (fun v : Value => v) w b 0 hv.toArray → b < w.heap.size → (∀ q, (h1 : q < zs.length) → (h2 : q < hv.length) → LisAt w b zs[q] hv[q]) →
      Calls c.P f #[.slice (some ⟨b, 0, none⟩) zs.length cap, .func (.func g) #[] #[]] w fun x w' => x = .returned (.tuple #[]) ∧ ∃ (ps : List (Value × List Int)) (n : Nat) (os : Array Obj), ps.Perm (hv.zip zs) ∧ ps.map Prod.snd = ys ∧ w' = grow (putRow (fun v : Value => v) (Go.Sort.ahead w n) b 0 (ps.map Prod.fst).toArray) os)
    (hsl : RigS s.sl sl') (hdf : marksOnly s.df = true)
    (K : SeqWP c ops Q (i + 1) rest (St.put ⟨sl', (s.H.map keepO).set k (.cells [.ownb j 1 et (lisE ys)]), s.df⟩ d (.raw (.tuple #[])))) : SeqWP c ops Q i (⟨d, .call ⟨.value x0, #[y, z], ats⟩, t, p, af, none⟩ :: rest) s := by
  refine sq_op fun e a hs next hn => ?_
  have hxr := hx e _ (hs.op x0)
  rw [Rep] at hxr
  obtain ⟨fv, cv, hfv, h1, h2⟩ := hxr
  rw [RepL] at h1 h2
  have h1 : fv = #[] := by simpa using h1
  have h2 : cv = #[] := by simpa using h2
  subst h1; subst h2
  have hzr := hz2 e _ (hs.op z)
  rw [Rep] at hzr
  obtain ⟨fw, cw, hzv, h1, h2⟩ := hzr
  rw [RepL] at h1 h2
  have h1 : fw = #[] := by simpa using h1
  have h2 : cw = #[] := by simpa using h2
  subst h1; subst h2
  have hzl : (lisE zs).length = zs.length := by simp
  have hyl : (lisE ys).length = zs.length := by simp [hlen]
  have hT : e.T j = some zs.length := by unfold Env.T; rw [hs.H, hj]; rfl
  have own : ∀ v, Rep e (.ownb j 1 et (lisE zs)) v → ∃ b cap cs, v = .slice (some ⟨b, 0, none⟩) zs.length cap ∧ zs.length ≤ cap ∧ e.μ j = some b ∧ e.G b = zs.length ∧ e.w.heap[b]? = some (.cells cs et (0, 0)) ∧ cap ≤ cs.size ∧ ElemsAt e (lisE zs) b 0 ∧ j < e.H.length := by
    intro v hv
    rw [Rep] at hv
    obtain ⟨ad, len, cap, rfl, rfl, hle, hnil, _, hcl, hjl, _, htl⟩ := hv
    rw [hzl] at hle
    cases ad with
    | none => have := hnil rfl; omega
    | some ad =>
      obtain ⟨hsp, hel⟩ := hcl ad rfl
      obtain ⟨b, off, sp⟩ := ad
      have hsp := hsp (by omega); simp only at hsp; subst hsp
      obtain ⟨hoff, hm, hg, cs, hh, hcs⟩ := htl (by rw [hT, hzl]) _ rfl
      dsimp only at hoff hm hg hh hcs hel
      subst hoff
      exact ⟨b, cap, cs, by rw [hzl], hle, hm, by rw [hg, hzl, Nat.mul_one], hh, by omega, hel, hjl⟩
  have hyr := hs.op y
  rw [hy] at hyr
  obtain ⟨b, cap, cs, hv, hle, hμ, hG, hh, hcs, hel, hjl⟩ := own _ hyr
  have hcellv : ∀ q, (hq : q < zs.length) → ∃ v, e.w.cell? ⟨b, q, none⟩ = some v ∧ Rep e (.sl 1 (numE zs[q])) v := fun q hq => by
    have h3 := hel.get (sz := 1) q [.sl 1 (numE zs[q])] lisE_sz (by simp [hq])
    rw [CellsAt] at h3
    obtain ⟨⟨_, u, h4, h5, _⟩, _⟩ := h3
    exact ⟨u, by simpa using h4, h5⟩
  have hsz : zs.length ≤ cs.size := Nat.le_trans hle hcs
  obtain ⟨hv0, hhv⟩ : ∃ hv0, hv0 = cs.toList.take zs.length := ⟨_, rfl⟩
  have hvl : hv0.length = zs.length := by have : cs.toList.length = cs.size := (by simp); rw [hhv, List.length_take]; omega
  have hcq : ∀ q, (hq : q < zs.length) → e.w.cell? ⟨b, q, none⟩ = some (hv0[q]'(by omega)) := fun q hq => by
    unfold World.cell?; simp [hh, hhv, show q < cs.size by omega]
  have hrep : ∀ q, (hq : q < zs.length) → Rep e (.sl 1 (numE zs[q])) (hv0[q]'(by omega)) := fun q hq => by
    obtain ⟨v, h1, h2⟩ := hcellv q hq
    rw [hcq q hq] at h1; cases h1; exact h2
  have hdat : ∀ q, (hq : q < zs.length) → ∃ bk o c, hv0[q]'(by omega) = .slice (some ⟨bk, o, none⟩) zs[q].length c ∧ zs[q].length ≤ c ∧ bk ≠ b ∧ CellsAt e (numL zs[q]) bk o ∧ (∀ j, (hj : j < zs[q].length) → o + j < e.G bk ∧ e.w.cell? ⟨bk, o + j, none⟩ = some (.int .i64 zs[q][j])) := fun q hq => by
    obtain ⟨bk, o, c2, h1, h2, h3, h4⟩ := lis_data (hne _ (List.getElem_mem hq)) (hrep q hq)
    refine ⟨bk, o, c2, h1, h2, fun hb => ?_, h3, h4⟩
    subst hb
    obtain ⟨h5, h6⟩ := h4 0 (List.length_pos_iff.2 (hne _ (List.getElem_mem hq)))
    rw [hG] at h5
    obtain ⟨bk2, o2, c3, h7, _⟩ := lis_data (hne _ (List.getElem_mem h5)) (hrep (o + 0) h5)
    rw [hcq _ h5, h7] at h6
    cases h6
  have hho : Holds (fun v : Value => v) e.w b 0 hv0.toArray := fun q hq => by
    have hq' : q < zs.length := by simpa [hvl] using hq
    refine ⟨?_, ?_⟩
    · rw [Nat.zero_add, hcq q hq']; simp [hvl, hq']
    · unfold World.frozen?; simp [hh]
  have hlis : ∀ q, (h1 : q < zs.length) → (h2 : q < hv0.length) → LisAt e.w b zs[q] hv0[q] := fun q h1 h2 => by
    obtain ⟨bk, o, c2, k1, k2, k3, _, k5⟩ := hdat q h1
    refine ⟨bk, o, c2, k1, k3, ?_, k2, fun j hj => (k5 j hj).2⟩
    have hp : 0 < zs[q].length := List.length_pos_iff.2 (hne _ (List.getElem_mem h1))
    exact G_lt hs.ok.fresh (k5 0 hp).1
  refine ⟨about_FW _ _ _ _ _, ?_⟩
  show Oper.uponIn (FW c.r) 0 c.P _ a next (lift c Q) (((Oper.semAt c.r a.eval ⟨d, .call ⟨.value x0, #[y, z], ats⟩, t, p, af, none⟩)).run c.P e.w)
  rw [semAt_of (by intro c h; cases h), run_callop hfv he]
  refine ⟨fun h => by simp [FW] at h, ?_⟩
  have hargs : (#[] : Array Value) ++ (#[y, z] : Array Operand).map a.eval ++ #[] = #[.slice (some ⟨b, 0, none⟩) zs.length cap, .func (.func g) #[] #[]] := by simp [hv, hzv]
  rw [hargs]
  have hcall := (callsIn_wide (n := 0)).2 (hc b cap e.w hv0 hvl hle hho (lt_of_heap hh) hlis)
  refine CallsIn.mono (F := FW c.r) (n := 0) hcall ?_
  rintro x w' ⟨rfl, ps, n, os, hpm, hys, hw⟩
  have hpl : (ps.map Prod.fst).length = zs.length := by rw [List.length_map, hpm.length_eq, List.length_zip, hvl, Nat.min_self]
  have ew : w' = grow ((Go.Sort.ahead e.w n).setRow b (ps.map Prod.fst ++ cs.toList.drop (ps.map Prod.fst).length).toArray) os := by
    rw [hw, putRow_isV (w := Go.Sort.ahead e.w n) (b := b) (cs := cs) (t := et) (fr := (0, 0)) hh (by omega)]
  have hw1 : w'.heap[b]? = some (.cells (ps.map Prod.fst ++ cs.toList.drop (ps.map Prod.fst).length).toArray et (0, 0)) := by
    rw [ew, heap_grow_old _ _ (by have := lt_of_heap hh; simpa [World.setRow, Go.Sort.ahead] using this)]
    exact setRow_heap _ _ _ _ _ _ hh
  have hw2 : ∀ b', b' < e.w.heap.size → b' ≠ b → w'.heap[b']? = e.w.heap[b']? := fun b' hb hne => by
    rw [ew, heap_grow_old _ _ (by simpa [World.setRow, Go.Sort.ahead] using hb), setRow_other _ _ _ _ hne]; rfl
  have hw3 : e.w.heap.size ≤ w'.heap.size := by rw [ew, size_grow]; simp [World.setRow, Go.Sort.ahead]
  have hw4 : Still e.w w' := by rw [ew]; exact ⟨rfl, rfl⟩
  have hcsz : (ps.map Prod.fst ++ cs.toList.drop (ps.map Prod.fst).length).toArray.size = cs.size := by have : cs.toList.length = cs.size := (by simp); rw [List.size_toArray, List.length_append, hpl, List.length_drop]; omega
  have hbne : ∀ q bq, e.μ q = some bq → e.G bq = 0 → bq ≠ b := fun q bq _ hg he => by rw [he, hG] at hg; omega
  have hkl := lt_of_get? hk
  have hjk : j ≠ k := fun h => by rw [h, hk] at hj; cases hj
  obtain ⟨H', hH'⟩ : ∃ H', H' = (s.H.map keepO).set k (.cells [.ownb j 1 et (lisE ys)]) := ⟨_, rfl⟩
  have hlen' : H'.length = e.H.length := by rw [hH', hs.H]; simp
  obtain ⟨e3, he3⟩ : ∃ e3 : Env, e3 = { H := H', μ := e.μ, G := e.G, w := w' } := ⟨_, rfl⟩
  have hT3 : ∀ q, e3.T q = e.T q := fun q => by
    rw [he3]; unfold Env.T; simp only
    rw [hH', hs.H]
    by_cases hq : k = q
    · subst hq; rw [List.getElem?_set_self (by simpa using hkl), hk]; rfl
    · rw [List.getElem?_set_ne hq, List.getElem?_map, tok_keep]
  have hl3 : e3.H.length = e.H.length := by rw [he3]; exact hlen'
  have hμ3 : e3.μ = e.μ := by rw [he3]
  have hrep3 : ∀ x ∈ ps, Rep e3 (.sl 1 (numE x.2)) x.1 := fun x hx => by
    obtain ⟨q, hq, hxq⟩ := List.getElem_of_mem (hpm.mem_iff.1 hx)
    have hq1 : q < zs.length := by simp only [List.length_zip] at hq; omega
    rw [List.getElem_zip] at hxq
    obtain ⟨bk, o, c2, k1, k2, k3, k4, k5⟩ := hdat q hq1
    rw [← hxq]
    simp only
    rw [k1, Rep]
    refine ⟨_, _, _, rfl, by simp, k2, (fun h => by cases h), numE_sz, fun ad had => ?_⟩
    cases had
    refine ⟨fun _ => rfl, ElemsAt.flat.2 ?_⟩
    rw [numE_flat]
    have hp : 0 < zs[q].length := List.length_pos_iff.2 (hne _ (List.getElem_mem hq1))
    have hbs : bk < e.w.heap.size := G_lt hs.ok.fresh (k5 0 hp).1
    exact cells_keep (by rw [he3]) (fun o => by rw [he3]; exact cell?_of_heap (hw2 bk hbs k3)) k4
  have hel3 : ElemsAt e3 (lisE ys) b 0 := by
    refine ElemsAt.flat.2 ?_
    rw [lisE_flat, ← hys]
    refine CellsAt.of_values (e := e3) (b := b) (cs := (ps.map Prod.fst ++ cs.toList.drop (ps.map Prod.fst).length).toArray) (t := et) (fr := (0, 0)) (by rw [he3]; exact hw1) (lis_repL ps hrep3) (fun v hv2 => ?_) (fun q v hq => ?_) (by rw [he3]; simp only [Nat.zero_add]; rw [hG, hpl]; exact Nat.le_refl _)
    · obtain ⟨x, hx, rfl⟩ := List.mem_map.1 hv2
      have h3 := hrep3 x hx
      rw [Rep] at h3
      obtain ⟨_, _, _, h4, _⟩ := h3
      rw [h4]; rfl
    · have hql := lt_of_get? hq
      rw [Nat.zero_add, List.getElem?_toArray, List.getElem?_append_left hql]; exact hq
  have ok3 : EnvOK e3 := by
    refine ⟨fun b' hb' => ?_, fun q o ho => ?_, fun q r b' hq hr2 h3 h4 => ?_, fun q b' hq h3 => ?_, ?_⟩
    · rw [he3] at hb' ⊢
      exact hs.ok.fresh b' (Nat.le_trans hw3 hb')
    · rw [he3] at ho
      simp only at ho
      rw [hH'] at ho
      by_cases hq : k = q
      · subst hq
        rw [List.getElem?_set_self (by simpa using hkl)] at ho
        cases ho
        obtain ⟨bk, csk, tk, m1, m2, m3, m4, m5⟩ := hs.ok.objs k _ (by rw [hs.H]; exact hk)
        have hbk := hbne k bk m1 m2
        refine ⟨bk, csk, tk, by rw [hμ3]; exact m1, by rw [he3]; exact m2, by rw [he3]; exact (hw2 bk (lt_of_heap m3) hbk).trans m3, ?_, m5⟩
        rw [RepL] at m4
        obtain ⟨v2, r2, e4, m6, m7⟩ := m4
        rw [RepL] at m7; subst m7
        rw [e4]
        obtain ⟨b2, cap2, cs2, rfl, hle2, hμ2, _, hh2, hcs2, _, _⟩ := own _ m6
        rw [hμ] at hμ2; cases hμ2
        rw [hh] at hh2; cases hh2
        refine RepL.cons ?_ RepL.nil
        rw [Rep]
        refine ⟨_, _, _, rfl, hyl.symm, hle2, (fun h => by cases h), lisE_sz, fun ad had => ?_, by rw [hl3]; exact hjl, ⟨zs.length, by rw [hT3, hT], by rw [hyl]; exact Nat.le_refl _⟩, fun _ ad had => ?_⟩
        · cases had
          exact ⟨fun _ => rfl, hel3⟩
        · cases had
          exact ⟨rfl, by rw [hμ3]; exact hμ, by rw [he3]; simp only; rw [hG, Nat.mul_one], _, by rw [he3]; exact hw1, by rw [hcsz, Nat.mul_one]; exact hcs2⟩
      · rw [List.getElem?_set_ne hq, List.getElem?_map] at ho
        cases hoq : s.H[q]? with
        | none => rw [hoq] at ho; cases ho
        | some o0 =>
          rw [hoq] at ho
          have ho : keepO o0 = o := Option.some.inj ho
          subst ho
          have hob := hs.ok.objs q o0 (by rw [hs.H]; exact hoq)
          cases o0 with
          | raw o1 =>
            obtain ⟨bk, m1, m2, m3⟩ := hob
            exact ⟨bk, by rw [hμ3]; exact m1, by rw [he3]; exact (hw2 bk (lt_of_heap m2) (hbne q bk m1 m3)).trans m2, by rw [he3]; exact m3⟩
          | tok m => trivial
          | _ => trivial
    · rw [hl3] at hq hr2; rw [hμ3] at h3 h4
      exact hs.ok.inj q r b' hq hr2 h3 h4
    · rw [hl3] at hq; rw [hμ3] at h3
      have := hs.ok.live q b' hq h3
      rw [he3]; exact Nat.lt_of_lt_of_le this hw3
    · refine hs.ok.tabs.of (by rw [he3]; exact hw3) (fun b' hb' hno => ?_) fun q b' hq h3 => .inr ⟨q, by rw [hl3] at hq; exact hq, by rw [hμ3] at h3; exact h3⟩
      rw [he3]; exact hw2 b' hb' (fun h => by subst h; exact hno j hjl hμ)
  have hb0 : c.e0.w.heap.size ≤ b := by
    rcases hs.fr.objs j b hjl hμ with h3 | ⟨q, hq, _⟩
    · exact h3
    · rw [h0] at hq; exact absurd hq (Nat.not_lt_zero _)
  have fr3 : Fr c.e0 e3 := by
    refine ⟨by rw [he3]; exact Nat.le_trans hs.fr.size hw3, by rw [he3]; exact hs.fr.still.trans hw4, fun b' hb' hno => ?_, fun q b' hq h3 => ?_, ⟨by rw [h0]; exact Nat.zero_le _, fun q hq => by rw [h0] at hq; exact absurd hq (Nat.not_lt_zero _), fun b' off ho => ?_, fun q m ht => by unfold Env.T at ht; rw [h0] at ht; cases ht⟩⟩
    · obtain ⟨h3, h4⟩ := hs.fr.heap b' hb' hno
      rw [he3]; exact ⟨(hw2 b' (Nat.lt_of_lt_of_le hb' hs.fr.size) (by omega)).trans h3, h4⟩
    · rw [hl3] at hq; rw [hμ3] at h3; exact hs.fr.objs q b' hq h3
    · obtain ⟨h3, h4⟩ := hs.fr.le.cell b' off ho
      by_cases hbb : b' = b
      · subst hbb
        rw [hG] at h3
        obtain ⟨v5, h5, _⟩ := hcellv off h3
        rw [h4] at h5
        unfold World.cell? at h5
        rw [Array.getElem?_eq_none hb0] at h5
        cases h5
      · have hlt : b' < e.w.heap.size := by
          rcases Nat.lt_or_ge b' e.w.heap.size with q | q
          · exact q
          · rw [hs.ok.fresh b' q] at h3; exact absurd h3 (Nat.not_lt_zero _)
        rw [he3]; exact ⟨h3, (cell?_of_heap (hw2 b' hlt hbb)).trans h4⟩
  have sim3 : Sim c ⟨sl', H', s.df⟩ e3 a := ⟨hs.size, fun t => RigS.get hT3 hl3 hμ3 (hs.slots t) hsl, marks_mono hT3 hl3 hμ3 hdf hs.defers, by rw [he3], ok3, fr3⟩
  rw [← hH'] at K
  have hwe : e3.w = w' := by rw [he3]
  rw [← hwe]
  exact hn _ e3 _ K (sim3.put hd (by rw [Rep]))
end
end Go.Ab
