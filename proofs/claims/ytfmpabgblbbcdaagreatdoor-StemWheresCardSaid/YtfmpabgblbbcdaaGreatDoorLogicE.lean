/-
  A part of the proof: conditions: none beyond each theorem's own.
-/
import Derived.Test.YtfmpabgblbbcdaaGreatDoorLogicC
import Derived.Test.YtfmpabgblbbcdaaGreatDoorLogicD
import Derived.Laws.IdiomCopy
import Derived.Laws.CopyRow
import Derived.Test.YtfmpabgblbbcdaaGreatDoorLogicB
set_option linter.all false
namespace Go.Ab
variable [Tabs]
/-- **A change of one object**, whatever else stands. -/
def EffL (c : Ctx) (Q : AExit → St → Prop) (o : Oper) (k : Nat) (o0 ob : AObj) (df : List ADef) (ρ : Operand → AV) (v : AV) : Prop :=
  ∀ s e a, Sim c s e a → s.H[k]? = some o0 → s.df = df → (∀ x ∈ o.op.operands.toList, s.op x = ρ x) → ∀ K : Act → World → Prop,
    (∀ e' a', Sim c (St.put { s with H := s.H.set k ob } o.dst v) e' a' → (∀ q, q ≠ k → e'.μ q = e.μ q) → K a' e'.w) → o.wpIn (FW c.r) 0 c.P a e.w K (lift c Q)
def mask (ms : List Nat) (H : List AObj) : List AObj := H.mapIdx fun i o => if ms.contains i then .tok 0 else o
def msOK (b : Array Nat) (ix : List (Nat × Nat)) (i : Nat) (ms : List Nat) : Bool := ix.all fun q => ms.contains q.2 || (Nat.blt i q.1 && (b.getD q.1 0).testBit i)
def ixOK (n : Nat) (b : Array Nat) (ix : List (Nat × Nat)) : Bool := ix.all fun q => Nat.blt q.1 n && ix.all fun r => (!Nat.beq q.1 r.1 || Nat.beq q.2 r.2) && (!Nat.beq q.2 r.2 || !Nat.blt r.1 q.1 || (b.getD q.1 0).testBit r.1)
def drawOKl (ops : Array Oper) (ix : List (Nat × Nat)) : Bool := drawOKc ops [] [] && ixOK ops.size (Region.before ops) ix
def deedL (c : Ctx) (Q : AExit → St → Prop) (H0 : List AObj) (ops : Array Oper) (ix : List (Nat × Nat)) (i : Nat) (o : Oper) (s : St) : Act4 → Prop
  | .pan => False
  | .val v => guardIs ops c.nt s o true ∧ ∃ ms, msOK (Region.before ops) ix i ms = true ∧ Ev c.P c.r o (mask ms H0) s.op v
  | .skip => guardIs ops c.nt s o false
  | .fresh l id => o.guard = none ∧ id = s.H.length ∧ FreshOK c Q [] o s.op id l.1 l.2
  | .eff v H' => o.guard = none ∧ ∃ k o0 ob, (i, k) ∈ ix ∧ k < H0.length ∧ s.H[k]? = some o0 ∧ H' = s.H.set k ob ∧ EffL c Q o k o0 ob s.df s.op v
def DVl (c : Ctx) (Q : AExit → St → Prop) (H0 : List AObj) (ops : Array Oper) (ix : List (Nat × Nat)) : Nat → St → List Act4 → St → Prop
  | _, s, [], sf => sf = s
  | i, s, x :: as, sf => (∃ o, ops[i]? = some o ∧ dOK c.nt o.dst = true ∧ deedL c Q H0 ops ix i o s x) ∧ DVl c Q H0 ops ix (i + 1) (upd (dstOf ops i) s x) as sf
def DL (c : Ctx) (H0 : List AObj) (ops : Array Oper) (ix : List (Nat × Nat)) (Q : AExit → St → Prop) (i : Nat) (l : List Oper) (s : St) : Prop :=
  i ≤ ops.size → ops.toList.drop i = l → ∃ as sf, i + as.length = ops.size ∧ DVl c Q H0 ops ix i s as sf ∧ Q .normal sf
section rules
variable {c : Ctx} {H0 : List AObj} {ops : Array Oper} {ix : List (Nat × Nat)} {Q : AExit → St → Prop} {i : Nat} {s : St} {rest : List Oper}
variable {d : Option Tmp} {op : Op} {t : TypeId} {p : String} {af : Array Edge}
theorem dl_nil (h : Q .normal s) : DL c H0 ops ix Q i [] s := by
  intro hle hd
  have hge : ops.size ≤ i := by simpa [List.drop_eq_nil_iff] using hd
  exact ⟨[], s, by simp; omega, rfl, h⟩
theorem dl_step {o : Oper} (x : Act4) (hd : dOK c.nt o.dst = true) (hx : deedL c Q H0 ops ix i o s x) (k : DL c H0 ops ix Q (i + 1) rest (upd o.dst s x)) : DL c H0 ops ix Q i (o :: rest) s := by
  intro _ hdr
  obtain ⟨ho, hr⟩ := drop_cons hdr
  have ho : ops[i]? = some o := by simpa using ho
  have hlt := (Array.getElem?_eq_some_iff.1 ho).1
  obtain ⟨as, sf, h1, h2, h3⟩ := k hlt hr
  have hdo : dstOf ops i = o.dst := by unfold dstOf; rw [ho]; rfl
  exact ⟨x :: as, sf, by simp; omega, ⟨⟨o, ho, hd, hx⟩, by rw [hdo]; exact h2⟩, h3⟩
theorem dl_ev {v : AV} (ms : List Nat) (hd : dOK c.nt d = true) (hm : msOK (Region.before ops) ix i ms = true) (hv : Ev c.P c.r ⟨d, op, t, p, af, none⟩ (mask ms H0) s.op v) (k : DL c H0 ops ix Q (i + 1) rest (s.put d v)) : DL c H0 ops ix Q i (⟨d, op, t, p, af, none⟩ :: rest) s :=
  dl_step (.val v) hd ⟨rfl, ms, hm, hv⟩ k
theorem dl_fresh {ob : AObj} {v : AV} (hd : dOK c.nt d = true) (hv : FreshOK c Q [] ⟨d, op, t, p, af, none⟩ s.op s.H.length ob v)
    (k : DL c H0 ops ix Q (i + 1) rest (St.put { s with H := s.H ++ [ob] } d v)) : DL c H0 ops ix Q i (⟨d, op, t, p, af, none⟩ :: rest) s :=
  dl_step (.fresh (ob, v) s.H.length) hd ⟨rfl, rfl, hv⟩ k
theorem dl_eff {v : AV} {k : Nat} {o0 ob : AObj} (hd : dOK c.nt d = true) (hx : ix.contains (i, k) = true) (hk : Nat.blt k H0.length = true) (ho : s.H[k]? = some o0) (he : EffL c Q ⟨d, op, t, p, af, none⟩ k o0 ob s.df s.op v)
    (K : DL c H0 ops ix Q (i + 1) rest (St.put { s with H := s.H.set k ob } d v)) : DL c H0 ops ix Q i (⟨d, op, t, p, af, none⟩ :: rest) s :=
  dl_step (.eff v (s.H.set k ob)) hd ⟨rfl, k, o0, ob, by simpa using hx, by simpa [Nat.blt_eq] using hk, ho, rfl, he⟩ K
end rules
section main
variable {c : Ctx} {Q : AExit → St → Prop} {ops : Array Oper} {ix : List (Nat × Nat)} {b : Array Nat} {as : List Act4} {s sf : St}
structure TxF (ops : Array Oper) (s sf : St) (as : List Act4) : Prop where
  len : as.length = ops.size
  fin : sf = stk ops 0 as s ops.size
structure TxL (c : Ctx) (Q : AExit → St → Prop) (ops : Array Oper) (ix : List (Nat × Nat)) (s sf : St) (as : List Act4) : Prop extends TxF ops s sf as where
  at_ : ∀ k x, as[k]? = some x → ∃ o, ops[k]? = some o ∧ dOK c.nt o.dst = true ∧ deedL c Q s.H ops ix k o (stk ops 0 as s k) x
theorem txf_reads (hT : TxF ops s sf as) (hc : ChkC ops b [] []) {listed : Array Bool} (hsz : listed.size = ops.size) (hcl : Closed ops b listed) {i : Nat} (hi : i ∈ Region.ready .any ops listed) {o : Oper} (ho : ops[i]? = some o) {t : Tmp}
    (ht : t ∈ opTmps o ∨ t ∈ guardTmp ops o) : sget (slL sf s ops listed) t = sget (stA ops as s i).sl t := by
  obtain ⟨hin, hnl, _⟩ := (mem_ready' hsz).1 hi
  have hold : (∀ j, j < i → dstOf ops j ≠ some t) → sget (stA ops as s i).sl t = sget s.sl t := fun h => by
    have := stA_between (ops := ops) (as := as) (s := s) (k := 0) (t := t) i (fun j _ hj => h j (by omega))
    rwa [Nat.zero_add, stA_zero] at this
  by_cases hex : ∃ j, j < ops.size ∧ dstOf ops j = some t
  · obtain ⟨j, hj, hd⟩ := hex
    have huniq : ∀ j', j' < ops.size → j' ≠ j → dstOf ops j' ≠ some t := fun j' h1 h2 => hc.dsts j j' hj h1 (Ne.symm h2) t hd
    rcases hc.tmps i o ho t ht j hj hd with h | ⟨h1, h2⟩ | ⟨h1, h2⟩
    · subst h
      rw [slL_out (fun j' h1 h2 => huniq j' h1 (fun e => by subst e; rw [hnl] at h2; cases h2)), hold (fun j' h1 => huniq j' (by omega) (by omega))]
    · have hl := readyC hc hsz hcl hi hj h2
      rw [slL_in hj hl hd, hT.fin]
      have := stA_between (ops := ops) (as := as) (s := s) (k := i) (t := t) (ops.size - i) (fun j' h3 h4 => huniq j' (by omega) (by omega))
      rw [show i + (ops.size - i) = ops.size by omega] at this
      exact this
    · have hl : isIn listed j = false := by
        cases hb : isIn listed j with
        | false => rfl
        | true => have := hcl j i hj hin hb h2; rw [hnl] at this; cases this
      rw [slL_out (fun j' h3 h4 => huniq j' h3 (fun e => by subst e; rw [hl] at h4; cases h4)), hold (fun j' h3 => huniq j' (by omega) (by omega))]
  · have hno : ∀ j, j < ops.size → dstOf ops j ≠ some t := fun j h1 h2 => hex ⟨j, h1, h2⟩
    rw [slL_out (fun j h1 _ => hno j h1), hold (fun j h1 => hno j (by omega))]
theorem txf_out (hT : TxF ops s sf as) (hc : ChkC ops b [] []) {i : Nat} {x : Act4} (hx : as[i]? = some x) {t : Tmp} (hd : dstOf ops i = some t) : sget sf.sl t = x.out := by
  have hi : i < ops.size := by have := lt_of_get? hx; rw [hT.len] at this; exact this
  have := stA_between (ops := ops) (as := as) (s := s) (k := i + 1) (t := t) (ops.size - (i + 1)) (fun j' h3 h4 => hc.dsts i j' hi (by omega) (by omega) t hd)
  rw [show i + 1 + (ops.size - (i + 1)) = ops.size by omega] at this
  rw [hT.fin]
  refine Eq.trans this ?_
  rw [stA_succ hx, hd]; exact upd_eq
theorem slF_step (hT : TxF ops s sf as) (hc : ChkC ops b [] []) {listed : Array Bool} (hsz : listed.size = ops.size) {i : Nat} (hi : i < ops.size) {x : Act4} (hx : as[i]? = some x) {o : Oper} (ho : ops[i]? = some o) (H : List AObj) (df : List ADef) :
    ∀ t, sget (slL sf s ops (listed.setIfInBounds i true)) t = sget (St.put ⟨slL sf s ops listed, H, df⟩ o.dst x.out).sl t := by
  have hdo : dstOf ops i = o.dst := by unfold dstOf; rw [ho]; rfl
  intro t
  by_cases hd : o.dst = some t
  · rw [hd, sget_put_eq, slL_in hi (by rw [isIn_set (by omega)]; simp) (by rw [hdo]; exact hd)]
    exact txf_out hT hc hx (by rw [hdo]; exact hd)
  · rw [sget_put_ne hd]
    by_cases hex : ∃ j, j < ops.size ∧ isIn listed j = true ∧ dstOf ops j = some t
    · obtain ⟨j, h1, h2, h3⟩ := hex
      rw [slL_in h1 (by rw [isIn_set (by omega), h2]; rfl) h3]
      exact (slL_in h1 h2 h3).symm
    · rw [slL_out (fun j h1 h2 h3 => ?_), slL_out (fun j h1 h2 h3 => hex ⟨j, h1, h2, h3⟩)]
      rw [isIn_set (by omega)] at h2
      simp only [Bool.or_eq_true, decide_eq_true_eq] at h2
      rcases h2 with h2 | h2
      · exact hex ⟨j, h1, h2, h3⟩
      · subst h2; rw [hdo] at h3; exact hd h3
theorem dvl_fin : ∀ (as : List Act4) (i : Nat) (s sf : St) (H0 : List AObj), DVl c Q H0 ops ix i s as sf → sf = stk ops i as s as.length
  | [], _, _, _, _, h => h
  | _ :: as, i, s, sf, H0, h => dvl_fin as (i + 1) _ sf H0 h.2
theorem dvl_at : ∀ (as : List Act4) (i : Nat) (s sf : St) (H0 : List AObj), DVl c Q H0 ops ix i s as sf → ∀ k x, as[k]? = some x → ∃ o, ops[i + k]? = some o ∧ dOK c.nt o.dst = true ∧ deedL c Q H0 ops ix (i + k) o (stk ops i as s k) x
  | [], _, _, _, _, _, _, _, hk => by simp at hk
  | y :: as, i, s, sf, H0, h, 0, x, hk => by
    simp only [List.getElem?_cons_zero, Option.some.injEq] at hk
    subst hk; exact h.1
  | y :: as, i, s, sf, H0, h, k + 1, x, hk => by
    have := dvl_at as (i + 1) _ sf H0 h.2 k x (by simpa using hk)
    rw [show i + (k + 1) = i + 1 + k by omega]; exact this
def acts (ix : List (Nat × Nat)) (as : List Act4) (j k : Nat) : Prop := (∃ v H', as[j]? = some (.eff v H')) ∧ (j, k) ∈ ix
structure IxOK (n : Nat) (b : Array Nat) (ix : List (Nat × Nat)) : Prop where
  fn : ∀ j k k', (j, k) ∈ ix → (j, k') ∈ ix → k = k'
  ord : ∀ i j k, (i, k) ∈ ix → (j, k) ∈ ix → j < i → (b.getD i 0).testBit j = true
theorem ixOK_of {n : Nat} (h : ixOK n b ix = true) : IxOK n b ix := by
  have key : ∀ q ∈ ix, ∀ r ∈ ix, (q.1 = r.1 → q.2 = r.2) ∧ (q.2 = r.2 → r.1 < q.1 → (b.getD q.1 0).testBit r.1 = true) := by
    intro q hq r hr
    have h1 := List.all_eq_true.1 h q hq
    rw [Bool.and_eq_true] at h1
    have h2 := List.all_eq_true.1 h1.2 r hr
    simp only [Bool.and_eq_true, Bool.or_eq_true, Bool.not_eq_true'] at h2
    refine ⟨fun e => ?_, fun e hlt => ?_⟩
    · rcases h2.1 with h3 | h3
      · rw [e] at h3; simp at h3
      · exact Nat.eq_of_beq_eq_true h3
    · rcases h2.2 with (h3 | h3) | h3
      · rw [e] at h3; simp at h3
      · have : Nat.blt r.1 q.1 = true := by simpa [Nat.blt_eq] using hlt
        rw [this] at h3; cases h3
      · exact h3
  exact ⟨fun j k k' h1 h2 => (key _ h1 _ h2).1 rfl, fun i j k h1 h2 hlt => (key _ h1 _ h2).2 rfl hlt⟩
abbrev hx (ops : Array Oper) (as : List Act4) (s : St) (k : Nat) : List AObj := (stA ops as s k).H
theorem hx_len (hT : TxL c Q ops ix s sf as) : ∀ k, s.H.length ≤ (hx ops as s k).length ∧ (∀ j l id, j < k → as[j]? = some (.fresh l id) → s.H.length ≤ id ∧ id < (hx ops as s k).length ∧ (hx ops as s k)[id]? = some l.1) ∧
    (∀ m, s.H.length ≤ m → m < (hx ops as s k).length → ∃ j l, j < k ∧ as[j]? = some (.fresh l m))
  | 0 => by rw [show hx ops as s 0 = s.H by show (stA ops as s 0).H = _; rw [stA_zero]]; exact ⟨Nat.le_refl _, fun j _ _ h => by omega, fun m h1 h2 => by omega⟩
  | k + 1 => by
    obtain ⟨h1, h2, h3⟩ := hx_len hT k
    have keep : (hx ops as s (k + 1)).length = (hx ops as s k).length → (∀ id, s.H.length ≤ id → (hx ops as s (k + 1))[id]? = (hx ops as s k)[id]?) → (∀ l id, as[k]? ≠ some (.fresh l id)) →
        s.H.length ≤ (hx ops as s (k + 1)).length ∧ (∀ j l id, j < k + 1 → as[j]? = some (.fresh l id) → s.H.length ≤ id ∧ id < (hx ops as s (k + 1)).length ∧ (hx ops as s (k + 1))[id]? = some l.1) ∧
        (∀ m, s.H.length ≤ m → m < (hx ops as s (k + 1)).length → ∃ j l, j < k + 1 ∧ as[j]? = some (.fresh l m)) := by
      intro e1 e2 hn
      refine ⟨by omega, fun j l id hj hf => ?_, fun m g1 g2 => ?_⟩
      · rcases Nat.lt_or_ge j k with g | g
        · obtain ⟨q1, q2, q3⟩ := h2 j l id g hf
          exact ⟨q1, by omega, by rw [e2 id q1]; exact q3⟩
        · have : j = k := by omega
          subst this; exact absurd hf (hn l id)
      · obtain ⟨j, l, g3, g4⟩ := h3 m g1 (by omega)
        exact ⟨j, l, by omega, g4⟩
    rcases Nat.lt_or_ge k as.length with hl | hl
    · have hx' : as[k]? = some as[k] := by simp [hl]
      have hH := stA_heap (ops := ops) (s := s) hx'
      cases hy : as[k] with
      | pan => rw [hy] at hH hx'; exact keep (by show ((stA ops as s (k+1)).H).length = _; rw [hH]; rfl) (fun id _ => by show (stA ops as s (k+1)).H[id]? = _; rw [hH]; rfl) (fun l id e => by rw [hx'] at e; cases e)
      | val v => rw [hy] at hH hx'; exact keep (by show ((stA ops as s (k+1)).H).length = _; rw [hH]; rfl) (fun id _ => by show (stA ops as s (k+1)).H[id]? = _; rw [hH]; rfl) (fun l id e => by rw [hx'] at e; cases e)
      | skip => rw [hy] at hH hx'; exact keep (by show ((stA ops as s (k+1)).H).length = _; rw [hH]; rfl) (fun id _ => by show (stA ops as s (k+1)).H[id]? = _; rw [hH]; rfl) (fun l id e => by rw [hx'] at e; cases e)
      | eff v H' =>
        rw [hy] at hH hx'
        obtain ⟨o, _, _, _, q, o0, ob, _, hq, _, hset, _⟩ := hT.at_ k _ hx'
        have hset : H' = (stA ops as s k).H.set q ob := hset
        have hH : (stA ops as s (k + 1)).H = (stA ops as s k).H.set q ob := by rw [hH, ← hset]; rfl
        exact keep (by show ((stA ops as s (k+1)).H).length = _; rw [hH]; simp) (fun id hid => by show (stA ops as s (k+1)).H[id]? = _; rw [hH, List.getElem?_set_ne (by omega)]) (fun l id e => by rw [hx'] at e; cases e)
      | fresh l id =>
        rw [hy] at hH hx'
        obtain ⟨o, _, _, _, hid, _⟩ := hT.at_ k _ hx'
        have hid : id = (hx ops as s k).length := hid
        have e0 : hx ops as s (k + 1) = hx ops as s k ++ [l.1] := hH
        clear hH
        rw [e0]
        refine ⟨by simp; omega, fun j l' id' hj hf => ?_, fun m g1 g2 => ?_⟩
        · rcases Nat.lt_or_ge j k with g | g
          · obtain ⟨g1, g2, g3⟩ := h2 j l' id' g hf
            exact ⟨g1, by simp; omega, by rw [List.getElem?_append_left g2]; exact g3⟩
          · have : j = k := by omega
            subst this
            rw [hx'] at hf; simp only [Option.some.injEq, Act4.fresh.injEq] at hf
            obtain ⟨rfl, rfl⟩ := hf
            exact ⟨by omega, by simp; omega, by rw [hid]; simp⟩
        · rcases Nat.lt_or_ge m (hx ops as s k).length with g | g
          · obtain ⟨j, l', g3, g4⟩ := h3 m g1 g
            exact ⟨j, l', by omega, g4⟩
          · have : m = id := by simp at g2; omega
            subst this; exact ⟨k, l, by omega, hx'⟩
    · have e : hx ops as s (k + 1) = hx ops as s k := by show (stA ops as s (k+1)).H = (stA ops as s k).H; unfold stA; rw [stk_none hl]
      exact keep (by rw [e]) (fun id _ => by rw [e]) (fun l id hh => by rw [List.getElem?_eq_none hl] at hh; cases hh)
theorem hx_same (hT : TxL c Q ops ix s sf as) {i : Nat} (hi : i < s.H.length) {m : Nat} : ∀ d, (∀ j, m ≤ j → j < m + d → ¬ acts ix as j i) → (hx ops as s (m + d))[i]? = (hx ops as s m)[i]?
  | 0, _ => rfl
  | d + 1, h => by
    rw [← hx_same hT hi d (fun j h1 h2 => h j h1 (by omega))]
    have hlen := (hx_len hT (m + d)).1
    rcases Nat.lt_or_ge (m + d) as.length with hl | hl
    · have hx' : as[m + d]? = some as[m + d] := by simp [hl]
      have hH := stA_heap (ops := ops) (s := s) hx'
      show (stA ops as s (m + (d + 1))).H[i]? = _
      rw [show m + (d + 1) = m + d + 1 by omega]
      cases hy : as[m + d] with
      | pan => rw [hy] at hH; rw [hH]; rfl
      | val v => rw [hy] at hH; rw [hH]; rfl
      | skip => rw [hy] at hH; rw [hH]; rfl
      | fresh l id => rw [hy] at hH; rw [hH]; exact List.getElem?_append_left (show i < (hx ops as s (m + d)).length by omega)
      | eff v H' =>
        rw [hy] at hH hx'
        obtain ⟨o, _, _, _, q, o0, ob, hin, hq, _, hset, _⟩ := hT.at_ (m + d) _ hx'
        have hset : H' = (stA ops as s (m + d)).H.set q ob := hset
        have hqi : q ≠ i := fun e => h (m + d) (by omega) (by omega) ⟨⟨v, H', hx'⟩, by rw [← e]; exact hin⟩
        rw [hH]; show H'[i]? = _
        rw [hset, List.getElem?_set_ne hqi]
    · have e : hx ops as s (m + (d + 1)) = hx ops as s (m + d) := by show (stA ops as s (m + d + 1)).H = (stA ops as s (m + d)).H; unfold stA; rw [stk_none hl]
      rw [e]
theorem hx_eq (hT : TxL c Q ops ix s sf as) {i : Nat} (hi : i < s.H.length) {m n : Nat} (h : ∀ j, ((m ≤ j ∧ j < n) ∨ (n ≤ j ∧ j < m)) → ¬ acts ix as j i) : (hx ops as s n)[i]? = (hx ops as s m)[i]? := by
  rcases Nat.le_total m n with q | q
  · have := hx_same hT hi (m := m) (n - m) (fun j h1 h2 => h j (.inl ⟨h1, by omega⟩))
    rwa [show m + (n - m) = n by omega] at this
  · have := hx_same hT hi (m := n) (m - n) (fun j h1 h2 => h j (.inr ⟨h1, by omega⟩))
    rw [show n + (m - n) = m by omega] at this
    exact this.symm
structure PL (c : Ctx) (ops : Array Oper) (ix : List (Nat × Nat)) (as : List Act4) (s sf : St) (listed : Array Bool) (e : Env) (a : Act) : Prop where
  sim : Sim c ⟨slL sf s ops listed, e.H, s.df⟩ e a
  len : e.H.length = (hx ops as s ops.size).length
  old : ∀ i, i < s.H.length → ∃ m, m ≤ ops.size ∧ e.H[i]? = (hx ops as s m)[i]? ∧ (∀ j, j < m → acts ix as j i → isIn listed j = true) ∧ (∀ j, m ≤ j → acts ix as j i → isIn listed j = false)
  new : ∀ (k : Nat) (l : AObj × AV) (id : Nat), as[k]? = some (Act4.fresh l id) → (isIn listed k = true → e.H[id]? = some l.1) ∧ (isIn listed k = false → e.H[id]? = some .dead ∧ e.μ id = none)
theorem pl_start {e : Env} {a : Act} (hT : TxL c Q ops ix s sf as) (hs : Sim c s e a) (n : Nat) :
    ∃ e', e'.w = { e.w with drawn := e.w.drawn + 1 } ∧ PL c ops ix as s sf (Array.replicate n false) e' a := by
  obtain ⟨b1, b2, b3⟩ := hx_len hT ops.size
  have hs1 := hs.ext (EnvOK.drew hs.ok)
  generalize he1 : ({ e with w := { e.w with drawn := e.w.drawn + 1 } } : Env) = e1 at hs1
  have hw : e1.w = { e.w with drawn := e.w.drawn + 1 } := by rw [← he1]
  obtain ⟨nf, hnf⟩ : ∃ nf, nf = (hx ops as s ops.size).length - s.H.length := ⟨_, rfl⟩
  obtain ⟨e2, he2⟩ : ∃ e2 : Env, e2 = { H := e1.H ++ List.replicate nf .dead, μ := fun i => if i < e1.H.length then e1.μ i else none, G := e1.G, w := e1.w } := ⟨_, rfl⟩
  have hT' : ∀ i, e2.T i = e1.T i := fun i => by
    rw [he2]; unfold Env.T
    rcases Nat.lt_or_ge i e1.H.length with h | h
    · simp [List.getElem?_append_left h]
    · rw [List.getElem?_append_right h, List.getElem?_eq_none h, List.getElem?_replicate]
      split <;> rfl
  have le : e1.Le e2 := by
    refine ⟨by rw [he2]; simp, fun i hi ht => ⟨by rw [hT']; exact ht, fun _ hb => by rw [he2]; simpa [hi] using hb⟩, fun b off ho => by rw [he2]; exact ⟨ho, rfl⟩, fun i n ht => ⟨n, by rw [hT']; exact ht, Nat.le_refl _, fun _ => ?_⟩⟩
    have hi : i < e1.H.length := by
      rcases Nat.lt_or_ge i e1.H.length with k | k
      · exact k
      · unfold Env.T at ht; rw [List.getElem?_eq_none k] at ht; simp [tokOf] at ht
    rw [he2]
    exact ⟨by simp [hi], fun b cs t _ hh => ⟨rfl, cs, hh, rfl⟩⟩
  have hlt : ∀ i, i < e2.H.length → ∀ b, e2.μ i = some b → i < e1.H.length ∧ e1.μ i = some b := fun i _ b hb => by
    rw [he2] at hb
    simp only at hb
    by_cases h : i < e1.H.length
    · rw [if_pos h] at hb; exact ⟨h, hb⟩
    · rw [if_neg h] at hb; cases hb
  have hno : ∀ j, isIn (Array.replicate n false) j = false := fun j => by
    unfold isIn; rw [Array.getD_eq_getD_getElem?, Array.getElem?_replicate]; split <;> rfl
  have hsl : ∀ t, sget (slL sf s ops (Array.replicate n false)) t = sget s.sl t := fun t => slL_out (fun j _ h => by rw [hno] at h; cases h)
  refine ⟨e2, by rw [he2]; exact hw, ⟨hs1.size, fun t => ?_, hs1.defers.mono le, rfl, ⟨by rw [he2]; exact hs1.ok.fresh, fun i o ho => ?_, fun i j b hi hj h1 h2 => ?_, fun i b hi h1 => ?_, hs1.ok.tabs.sub (by rw [he2]) fun i b hi h1 => ⟨i, (hlt i hi b h1).1, (hlt i hi b h1).2⟩⟩, ⟨by rw [he2]; exact hs1.fr.size, by rw [he2]; exact hs1.fr.still, by rw [he2]; exact hs1.fr.heap, fun i b hi h1 => ?_, hs1.fr.le.trans le⟩⟩, ?_, fun i hi => ⟨0, Nat.zero_le _, ?_, fun j hj _ => absurd hj (Nat.not_lt_zero _), fun j _ _ => hno j⟩, fun k l id hk => ⟨fun h => ?_, fun _ => ?_⟩⟩
  · simp only [hsl]; exact Rep.mono le _ (hs1.slots t)
  · rcases Nat.lt_or_ge i e1.H.length with h | h
    · have ho' : e1.H[i]? = some o := by rw [he2] at ho; simpa [List.getElem?_append_left h] using ho
      exact ObjSim.mono le (hs1.ok.objs i o ho') (by rw [he2]; simp [h]) (fun _ _ => by rw [he2]; exact ⟨rfl, rfl⟩)
    · rw [he2] at ho
      simp only [List.getElem?_append_right h, List.getElem?_replicate] at ho
      split at ho
      · simp only [Option.some.injEq] at ho; subst ho; trivial
      · cases ho
  · obtain ⟨g1, g2⟩ := hlt i hi b h1
    obtain ⟨g3, g4⟩ := hlt j hj b h2
    exact hs1.ok.inj i j b g1 g3 g2 g4
  · obtain ⟨g1, g2⟩ := hlt i hi b h1
    have := hs1.ok.live i b g1 g2
    rw [he2]; exact this
  · obtain ⟨g1, g2⟩ := hlt i hi b h1
    exact hs1.fr.objs i b g1 g2
  · rw [he2]; simp only [List.length_append, List.length_replicate, hs1.H]; omega
  · have h0 : hx ops as s 0 = s.H := by show (stA ops as s 0).H = _; rw [stA_zero]
    rw [he2, h0]; simp only
    rw [hs1.H, List.getElem?_append_left hi]
  · rw [hno] at h; cases h
  · have hkN : k < ops.size := by have := lt_of_get? hk; rw [hT.len] at this; exact this
    obtain ⟨g1, g2, _⟩ := b2 k l id hkN hk
    rw [he2]
    simp only [hs1.H]
    refine ⟨?_, by rw [if_neg (by omega)]⟩
    rw [List.getElem?_append_right g1, List.getElem?_replicate, if_pos (by omega)]
theorem fresh_ne (hT : TxL c Q ops ix s sf as) {k k' : Nat} {l l' : AObj × AV} {id id' : Nat} (hk : as[k]? = some (Act4.fresh l id)) (hk' : as[k']? = some (Act4.fresh l' id')) (hne : k ≠ k') : id ≠ id' := by
  have hlt : ∀ (k k' : Nat) (l l' : AObj × AV) (id id' : Nat), k < k' → as[k]? = some (Act4.fresh l id) → as[k']? = some (Act4.fresh l' id') → id < id' := by
    intro k k' l l' id id' hkk hk hk'
    obtain ⟨_, _, _, _, q, _⟩ := hT.at_ k' _ hk'
    have q : id' = (hx ops as s k').length := q
    have := (hx_len hT k').2.1 k l id hkk hk
    omega
  rcases Nat.lt_or_gt_of_ne hne with h | h
  · exact Nat.ne_of_lt (hlt k k' l l' id id' h hk hk')
  · exact Ne.symm (Nat.ne_of_lt (hlt k' k l' l id' id h hk' hk))
theorem pl_step (hT : TxL c Q ops ix s sf as) (hc : ChkC ops b [] []) (hbe : b = Region.before ops) (hix : IxOK ops.size b ix)
    {listed : Array Bool} (hsz : listed.size = ops.size) (hcl : Closed ops b listed) {i : Nat} (hi : i ∈ Region.ready .any ops listed) {e : Env} {a : Act} (hp : PL c ops ix as s sf listed e a)
    {K : Act → World → Prop} (hK : ∀ e' a', PL c ops ix as s sf (listed.setIfInBounds i true) e' a' → K a' e'.w) : wpOpIn (FW c.r) 0 c.P ops (lift c Q) i K a e.w := by
  obtain ⟨hin, hnl, _⟩ := (mem_ready' hsz).1 hi
  have hil : i < listed.size := by omega
  have hget : ∃ d, as[i]? = some d := ⟨as[i]'(by rw [hT.len]; exact hin), by simp [hT.len, hin]⟩
  obtain ⟨x, hx'⟩ := hget
  obtain ⟨o, ho, hdk, hdeed⟩ := hT.at_ i x hx'
  have hdo : dstOf ops i = o.dst := by unfold dstOf; rw [ho]; rfl
  have hreads : ∀ t, t ∈ opTmps o ∨ t ∈ guardTmp ops o → sget (slL sf s ops listed) t = sget (stA ops as s i).sl t := fun t ht => txf_reads hT.toTxF hc hsz hcl hi ho ht
  have hset : ∀ j, isIn (listed.setIfInBounds i true) j = (isIn listed j || decide (j = i)) := fun j => isIn_set hil
  have hopeq : ∀ x ∈ o.op.operands.toList, St.op ⟨slL sf s ops listed, e.H, s.df⟩ x = (stA ops as s i).op x := by
    intro x hxm
    cases x with
    | tmp t => exact hreads t (.inl (mem_opTmps hxm))
    | const v => rfl
    | global g => rfl
    | func f => rfl
  have hops : ∀ x ∈ o.op.operands.toList, Rep e ((stA ops as s i).op x) (a.eval x) := fun x hxm => by rw [← hopeq x hxm]; exact hp.sim.op x
  have hgt : ∀ t, t ∈ guardTmp ops o → Rep e (sget (stA ops as s i).sl t) (a.tmps.getD t undef) := fun t ht => by rw [← hreads t (.inr ht)]; exact hp.sim.slots t
  have hslst := slF_step hT.toTxF hc hsz hin hx' ho e.H s.df
  have hphQ : ∀ e' : Env, e'.H = e.H → (∀ id, id < e.H.length → e'.μ id = e.μ id) → ¬ special x → ∀ sim' : Act, Sim c ⟨slL sf s ops (listed.setIfInBounds i true), e'.H, s.df⟩ e' sim' → PL c ops ix as s sf (listed.setIfInBounds i true) e' sim' := by
    intro e' hH hμ hns a' hs'
    refine ⟨hs', by rw [hH]; exact hp.len, fun q hq => ?_, fun k l id hk => ?_⟩
    · obtain ⟨m, h1, h2, h3, h4⟩ := hp.old q hq
      refine ⟨m, h1, by rw [hH]; exact h2, fun j hj hact => by rw [hset, h3 j hj hact]; rfl, fun j hj hact => ?_⟩
      have hji : j ≠ i := fun e => by subst e; obtain ⟨⟨v, H', h5⟩, _⟩ := hact; rw [hx'] at h5; cases h5; exact hns trivial
      rw [hset, h4 j hj hact]; simpa using hji
    · have hki : k ≠ i := fun e => by subst e; rw [hx'] at hk; cases hk; exact hns trivial
      have : decide (k = i) = false := by simpa using hki
      have hidl : isIn listed k = false → id < e.H.length := fun h => lt_of_get? ((hp.new k l id hk).2 h).1
      rw [hset, this, Bool.or_false, hH]
      refine ⟨(hp.new k l id hk).1, fun h => ?_⟩
      rw [hμ id (hidl h)]
      exact (hp.new k l id hk).2 h
  unfold wpOpIn
  simp only [ho]
  cases x with
  | pan => exact hdeed.elim
  | val v =>
    obtain ⟨hg, ms, hms, hev⟩ := hdeed
    have hw := guard_wanted (e := e) hp.sim.size hg hgt
    rw [if_pos hw]
    have hsx : HSub (mask ms s.H) e.H := by
      intro q o1 hq hnt
      have hql : q < s.H.length := by have := lt_of_get? hq; simpa [mask] using this
      have hq' : (mask ms s.H)[q]? = some (if ms.contains q then .tok 0 else s.H[q]) := by unfold mask; rw [List.getElem?_mapIdx, List.getElem?_eq_getElem hql]; rfl
      rw [hq'] at hq
      have hq := Option.some.inj hq
      by_cases hmq : ms.contains q = true
      · rw [if_pos hmq] at hq; exact absurd hq.symm (hnt 0)
      · rw [if_neg hmq] at hq
        obtain ⟨m, h1, h2, h3, h4⟩ := hp.old q hql
        have hnone : ∀ j, ((m ≤ j ∧ j < 0) ∨ (0 ≤ j ∧ j < m)) → ¬ acts ix as j q := fun j hj hact => by
          have hl := h3 j (by omega) hact
          have h5 := List.all_eq_true.1 hms (j, q) hact.2
          simp only [Bool.or_eq_true, Bool.and_eq_true, Nat.blt_eq] at h5
          rcases h5 with h5 | ⟨_, h5⟩
          · exact hmq h5
          · obtain ⟨⟨v', H', h6⟩, _⟩ := hact
            obtain ⟨o', ho', _, _⟩ := hT.at_ j _ h6
            have := hcl j i (Array.getElem?_eq_some_iff.1 ho').1 hin hl (by rw [hbe]; exact h5)
            rw [hnl] at this; cases this
        have h7 := hx_eq hT hql (m := m) (n := 0) hnone
        rw [h2, ← h7, show hx ops as s 0 = s.H by show (stA ops as s 0).H = _; rw [stA_zero], List.getElem?_eq_getElem hql, hq]
    refine hev e a _ _ hp.sim.ok hsx hops (fun u e' hxt hu => hK e' _ (hphQ e' hxt.H (fun id h => hxt.μ id h) id _ ?_))
    exact ((hp.sim.ext hxt).put hdk hu).congr hslst (by simp only [hxt.H]; cases o.dst <;> rfl) (by cases o.dst <;> rfl)
  | skip =>
    have hw := guard_wanted (e := e) hp.sim.size hdeed hgt
    rw [if_neg (by rw [hw]; simp)]
    refine ⟨fun _ _ => trivial, hK e _ (hphQ e rfl (fun _ _ => rfl) id _ ?_)⟩
    exact (hp.sim.put (v := .raw (.tuple #[])) (u := undef) hdk (by rw [Rep]; rfl)).congr hslst (by cases o.dst <;> rfl) (by cases o.dst <;> rfl)
  | eff v H' =>
    obtain ⟨hg, k, o0, ob, hik, hkl, hk0, hH', heff⟩ := hdeed
    have hw : Region.wanted o (yielded ops a.tmps) = true := by unfold Region.wanted; rw [hg]
    rw [if_pos hw]
    have hacti : acts ix as i k := ⟨⟨v, H', hx'⟩, hik⟩
    have hbefore : ∀ j, j < i → acts ix as j k → isIn listed j = true := fun j hj hact => readyC hc hsz hcl hi (by omega) (hix.ord i j k hik hact.2 hj)
    have hafter : ∀ j, i < j → acts ix as j k → isIn listed j = false := fun j hj hact => by
      cases hb : isIn listed j with
      | false => rfl
      | true =>
        obtain ⟨⟨v', H2, h6⟩, h7⟩ := hact
        obtain ⟨o', ho', _, _⟩ := hT.at_ j _ h6
        have := hcl j i (Array.getElem?_eq_some_iff.1 ho').1 hin hb (hix.ord j i k h7 hik hj)
        rw [hnl] at this; cases this
    have hHk : e.H[k]? = some o0 := by
      obtain ⟨m, h1, h2, h3, h4⟩ := hp.old k hkl
      have := hx_eq hT hkl (m := m) (n := i) (fun j hj hact => by
        rcases hj with ⟨h5, h6⟩ | ⟨h5, h6⟩
        · have h7 := hbefore j h6 hact; rw [h4 j h5 hact] at h7; cases h7
        · rcases Nat.lt_or_ge i j with q | q
          · have h7 := hafter j q hact; rw [h3 j h6 hact] at h7; cases h7
          · have : j = i := by omega
            subst this
            have h7 := h3 j h6 hact; rw [hnl] at h7; cases h7)
      rw [h2, ← this]; exact hk0
    refine heff ⟨slL sf s ops listed, e.H, s.df⟩ e a hp.sim hHk (stA_df ops as s i).symm hopeq K (fun e' a' hs' hμ' => ?_)
    have he' : e'.H = e.H.set k ob := by rw [hs'.H]; cases o.dst <;> rfl
    refine hK e' a' ⟨?_, by rw [he', List.length_set]; exact hp.len, fun q hq => ?_, fun kk l id hkk => ?_⟩
    · refine hs'.congr (fun t => ?_) (by simp only [he']; cases o.dst <;> rfl) (by cases o.dst <;> rfl)
      rw [slF_step hT.toTxF hc hsz hin hx' ho (e.H.set k ob) s.df t]; rfl
    · by_cases hqk : q = k
      · subst hqk
        refine ⟨i + 1, hin, ?_, fun j hj hact => ?_, fun j hj hact => ?_⟩
        · have e0 : hx ops as s (i + 1) = H' := stA_heap hx'
          have h5 : q < (stk ops 0 as s i).H.length := lt_of_get? hk0
          rw [he', e0, hH', List.getElem?_set_self (by have := lt_of_get? hHk; exact this), List.getElem?_set_self h5]
        · rw [hset]
          rcases Nat.lt_or_ge j i with h | h
          · rw [hbefore j h hact]; rfl
          · have : j = i := by omega
            simp [this]
        · rw [hset, hafter j (by omega) hact]; simp; omega
      · obtain ⟨m, h1, h2, h3, h4⟩ := hp.old q hq
        refine ⟨m, h1, by rw [he', List.getElem?_set_ne (Ne.symm hqk)]; exact h2, fun j hj hact => by rw [hset, h3 j hj hact]; rfl, fun j hj hact => ?_⟩
        have hji : j ≠ i := fun e => by subst e; exact hqk (hix.fn j q k hact.2 hik)
        rw [hset, h4 j hj hact]; simpa using hji
    · have hki : kk ≠ i := fun e => by subst e; rw [hx'] at hkk; cases hkk
      have hdec : decide (kk = i) = false := by simpa using hki
      have hkN : kk < ops.size := by have := lt_of_get? hkk; rw [hT.len] at this; exact this
      have hidk : id ≠ k := by have := ((hx_len hT ops.size).2.1 kk l id hkN hkk).1; omega
      rw [hset, hdec, Bool.or_false, he', List.getElem?_set_ne (Ne.symm hidk), hμ' id hidk]
      exact hp.new kk l id hkk
  | fresh l id =>
    obtain ⟨hg, hid, hfr⟩ := hdeed
    have hw : Region.wanted o (yielded ops a.tmps) = true := by unfold Region.wanted; rw [hg]
    rw [if_pos hw]
    obtain ⟨hdead, hμ⟩ := (hp.new i l id hx').2 hnl
    have hidl := lt_of_get? hdead
    have hidg := ((hx_len hT ops.size).2.1 i l id hin hx').1
    refine hfr ⟨slL sf s ops listed, e.H, s.df⟩ e a hp.sim (fun q o1 hq => by simp at hq) hops hdead hμ K (fun e' a' hs' hμ' => ?_)
    have he' : e'.H = e.H.set id l.1 := by rw [hs'.H]; cases o.dst <;> rfl
    refine hK e' a' ⟨?_, by rw [he', List.length_set]; exact hp.len, fun q hq => ?_, fun kk l' id' hkk => ?_⟩
    · refine hs'.congr (fun t => ?_) (by simp only [he']; cases o.dst <;> rfl) (by cases o.dst <;> rfl)
      rw [slF_step hT.toTxF hc hsz hin hx' ho (e.H.set id l.1) s.df t]; rfl
    · obtain ⟨m, h1, h2, h3, h4⟩ := hp.old q hq
      refine ⟨m, h1, by rw [he', List.getElem?_set_ne (by omega)]; exact h2, fun j hj hact => by rw [hset, h3 j hj hact]; rfl, fun j hj hact => ?_⟩
      have hji : j ≠ i := fun e => by subst e; obtain ⟨⟨v, H', h5⟩, _⟩ := hact; rw [hx'] at h5; cases h5
      rw [hset, h4 j hj hact]; simpa using hji
    · rw [hset]
      by_cases hki : kk = i
      · subst hki
        rw [hx'] at hkk; simp only [Option.some.injEq, Act4.fresh.injEq] at hkk
        obtain ⟨rfl, rfl⟩ := hkk
        exact ⟨fun _ => by rw [he', List.getElem?_set_self hidl], fun h => by simp at h⟩
      · have hne : id' ≠ id := fresh_ne hT hkk hx' hki
        have : decide (kk = i) = false := by simpa using hki
        rw [this, Bool.or_false]
        obtain ⟨q1, q2⟩ := hp.new kk l' id' hkk
        refine ⟨fun h => ?_, fun h => ?_⟩
        · rw [he', List.getElem?_set_ne (Ne.symm hne)]; exact q1 h
        · obtain ⟨q3, q4⟩ := q2 h
          rw [he', List.getElem?_set_ne (Ne.symm hne), hμ' id' (lt_of_get? q3) hne]; exact ⟨q3, q4⟩
/-- **A region that draws its order**, whose changes act on one object each. ix: which one changes which object. -/
theorem aw_drawl {id : Nat} {Q : AExit → St → Prop} {l : List Oper} (ix : List (Nat × Nat)) {s : St} (hm : c.P.follows .mixedOrders = true) (hok : drawOKl l.toArray ix = true) (h : DL c s.H l.toArray ix Q 0 l s) :
    AWP c (.region id l.toArray true) Q s := by
  obtain ⟨as, sf, hlen, hval, hQ⟩ := h (Nat.zero_le _) (by simp)
  generalize l.toArray = ops at *
  have hlen : as.length = ops.size := by omega
  unfold drawOKl at hok
  rw [Bool.and_eq_true] at hok
  have hc := chkC_of hok.1
  have hix := ixOK_of hok.2
  have hT : TxL c Q ops ix s sf as := ⟨⟨hlen, by rw [dvl_fin as 0 s sf s.H hval, hlen]⟩, fun k x hk => by have := dvl_at as 0 s sf s.H hval k x hk; simpa only [Nat.zero_add] using this⟩
  intro e a hs
  refine wpIn_region_any hm ?_
  obtain ⟨e1, hw1, hp1⟩ := pl_start hT hs ops.size
  rw [← hw1]
  have fin : ∀ (listed : Array Bool) (e : Env) (a : Act), (∀ j, j < ops.size → isIn listed j = true) → PL c ops ix as s sf listed e a → lift c Q .normal a e.w := by
    intro listed e a hall hp
    have hsl : ∀ t, sget sf.sl t = sget (slL sf s ops listed) t := fun t => by
      by_cases hex : ∃ j, j < ops.size ∧ dstOf ops j = some t
      · obtain ⟨j, h1, h2⟩ := hex
        rw [slL_in h1 (hall j h1) h2]
      · rw [slL_out (fun j h1 _ h2 => hex ⟨j, h1, h2⟩), hT.fin]
        have := stA_between (ops := ops) (as := as) (s := s) (k := 0) (t := t) ops.size (fun j _ h1 h2 => hex ⟨j, by omega, h2⟩)
        rw [Nat.zero_add, stA_zero] at this
        exact this
    have hH : sf.H = e.H := by
      have hf : sf.H = hx ops as s ops.size := by rw [hT.fin]; rfl
      rw [hf]
      apply List.ext_getElem?
      intro q
      rcases Nat.lt_or_ge q s.H.length with hq | hq
      · obtain ⟨m, h1, h2, h3, h4⟩ := hp.old q hq
        rw [h2]
        exact hx_eq hT hq (fun j hj hact => by
          have hact2 := hact
          obtain ⟨⟨v, H', h5⟩, _⟩ := hact2
          have hjn : j < ops.size := by have := lt_of_get? h5; rw [hT.len] at this; exact this
          rcases hj with ⟨h6, h7⟩ | ⟨h6, h7⟩
          · have h8 := h4 j h6 hact; rw [hall j hjn] at h8; cases h8
          · omega)
      · rcases Nat.lt_or_ge q (hx ops as s ops.size).length with hq2 | hq2
        · obtain ⟨j, l, h1, h2⟩ := (hx_len hT ops.size).2.2 q hq hq2
          rw [((hx_len hT ops.size).2.1 j l q h1 h2).2.2, (hp.new j l q h2).1 (hall j h1)]
        · rw [List.getElem?_eq_none hq2, List.getElem?_eq_none (by rw [hp.len]; exact hq2)]
    refine ⟨.normal, sf, e, hQ, rfl, hp.sim.congr hsl hH ?_, rfl⟩
    rw [hT.fin]; exact stA_df ops as s ops.size
  have key : ∀ (fuel : Nat) (listed : Array Bool) (e : Env) (a : Act), left listed ops.size ≤ fuel → listed.size = ops.size → Closed ops (Region.before ops) listed → PL c ops ix as s sf listed e a →
      wpAnyIn (FW c.r) 0 c.P .any ops (lift c Q) fuel listed a e.w := by
    intro fuel
    have hready : ∀ (listed : Array Bool), listed.size = ops.size → Region.ready .any ops listed = [] → ∀ j, j < ops.size → isIn listed j = true := by
      intro listed hsz hnone j
      induction j using Nat.strongRecOn with
      | _ n ihn =>
        intro hn
        cases hb : isIn listed n with
        | true => rfl
        | false =>
          have : n ∈ Region.ready .any ops listed := (mem_ready' hsz).2 ⟨hn, hb, fun o ho ed he hbd => by
            have := hc.edges n o ho ed he hbd
            exact ihn ed.on this (by omega)⟩
          rw [hnone] at this; cases this
    induction fuel with
    | zero =>
      intro listed e a hf hsz hcl hp
      have hall := left_zero (listed := listed) ops.size (by omega)
      refine ⟨?_, fin listed e a hall hp⟩
      apply List.eq_nil_iff_forall_not_mem.2
      intro i hi
      obtain ⟨h1, h2, _⟩ := (mem_ready' hsz).1 hi
      rw [hall i h1] at h2; cases h2
    | succ fuel ih =>
      intro listed e a hf hsz hcl hp
      refine ⟨fun hnone => fin listed e a (hready listed hsz hnone) hp, fun i hi => ?_⟩
      obtain ⟨hin, hif, _⟩ := (mem_ready' hsz).1 hi
      refine pl_step hT hc rfl hix hsz hcl hi hp (fun e' a' hp' => ih _ e' a' ?_ (by simpa using hsz) (closedC hc hsz hcl hi) hp')
      have := left_set (by omega) hif ops.size hin; omega
  refine key ops.size (Array.replicate ops.size false) e1 a ?_ (by simp) (fun j k _ _ h => ?_) hp1
  · rw [left_init ops.size ops.size (Nat.le_refl _)]; exact Nat.le_refl _
  · unfold isIn at h; rw [Array.getD_eq_getD_getElem?, Array.getElem?_replicate] at h; split at h <;> cases h
end main
section eff
variable {c : Ctx} {Q : AExit → St → Prop} {df : List ADef} {ρ : Operand → AV} {d : Option Tmp} {t : TypeId} {p : String} {af : Array Edge}
theorem effl_append {x y : Operand} {st xt et et' : TypeId} {j sz bytes : Nat} {es xs : List (List AV)} (hd : dOK c.nt d = true)
    (hf : SlFact c.P st et sz bytes) (hk : c.P.underlying xt = some (.slice et')) (hx : ρ x = .own j sz es) (hy : Less (ρ y) (.sl sz xs)) (hpos : 0 < xs.length)
    (hb : (es.length + xs.length) * bytes ≤ 140737488355328) (h63 : es.length + xs.length ≤ 9223372036854775807) :
    EffL c Q ⟨d, .call ⟨.builtin .append, #[x, y], #[st, xt]⟩, t, p, af, none⟩ j (.tok es.length) (.tok (es ++ xs).length) df ρ (.own j sz (es ++ xs)) := by
  intro s e ac hs hj _ hop next hK
  have hx : s.op x = .own j sz es := by rw [hop x (by simp [Op.operands, Call.operands])]; exact hx
  have hy : Less (s.op y) (.sl sz xs) := by rw [hop y (by simp [Op.operands, Call.operands])]; exact hy
  simp only [List.length_append] at hK
  have hu := hs.op x
  rw [hx, Rep] at hu
  have hv := hy e _ (hs.op y)
  obtain ⟨a, len, cap, hv1, hlen, hle, hnil, hsz, hc, h7, h8, h9⟩ := hu
  subst hlen
  have hTj : e.T j = some es.length := by unfold Env.T; rw [hs.H, hj]; rfl
  have htail := h9 hTj
  have hjl : j < e.H.length := h7
  refine ⟨about_FW _ _ _ _ _, ?_⟩
  show Oper.uponIn (FW c.r) 0 c.P _ ac next (lift c Q) (((Oper.semAt c.r ac.eval ⟨d, .call ⟨.builtin .append, #[x, y], #[st, xt]⟩, t, p, af, none⟩)).run c.P e.w)
  rw [semAt_of (by intro c h; cases h)]
  have hex : (execOp ac.eval ⟨d, .call ⟨.builtin .append, #[x, y], #[st, xt]⟩, t, p, af, none⟩).run c.P e.w = ((Builtin.append_ #[st, xt] t #[.slice a es.length cap, ac.eval y]).run c.P e.w).andThen fun v w'' => .ok (.value v) w'' := by
    simp [execOp, resolve, invoke, builtin, hv1]
  rw [hex]
  by_cases hfit : es.length + xs.length ≤ cap
  · -- it fits
    obtain ⟨ti, z, k1, k2, ksz, rfl, k5, k6, k7⟩ := hf.ex
    subst ksz
    cases a with
    | none => have := hnil rfl; omega
    | some ad =>
      obtain ⟨hsp, hel⟩ := hc ad rfl
      obtain ⟨b, off, sp⟩ := ad
      have hsp := hsp (by omega); simp only at hsp; subst hsp
      obtain ⟨hm, hg, cs, ct, hh, hcs⟩ := htail _ rfl (by omega)
      dsimp only at hm hg hh hcs hel
      obtain ⟨news, hsrc, hnw⟩ := src_of hk hv
      have hbl := lt_of_heap hh
      have hnl : news.length = xs.length * ti.size := hsrc.newsLen
      have hxsz : ∀ q ∈ xs, q.length = ti.size := by rw [Rep] at hv; obtain ⟨_, _, _, _, _, _, _, h, _⟩ := hv; exact h
      have hroom : off + es.length * ti.size + news.length ≤ cs.size := by
        have h1 : (es.length + xs.length) * ti.size ≤ cap * ti.size := Nat.mul_le_mul_right _ hfit
        rw [Nat.add_mul] at h1
        omega
      have hst := run_storeCells_at (P := c.P) b (off + es.length * ti.size) ct news 0 cs e.w hh (by simpa using hroom) hsrc.one
      simp only [Nat.add_zero] at hst
      generalize hcs' : (cs.toList.take (off + es.length * ti.size) ++ news ++ cs.toList.drop (off + es.length * ti.size + news.length)).toArray = cs' at hst
      have hrun : (Builtin.append_ #[st, xt] t #[.slice (some ⟨b, off, none⟩) es.length cap, ac.eval y]).run c.P e.w = .ok (.slice (some ⟨b, off, none⟩) (es.length + xs.length) cap) (e.w.setRow b cs') := by
        rcases hsrc.kind with ⟨e', he'⟩ | he' <;> simp [Builtin.append_, run_und k1, run_und hk, run_size k2, hsrc.len, hfit, hsrc.cells, Addr.add_lit, hst]
      have hsize' : cs'.size = cs.size := by rw [← hcs']; simp; omega
      have hget : ∀ (m : Nat), m < off + es.length * ti.size → cs'[m]? = cs[m]? := fun m hmlt => by
        rw [← hcs']
        simp only [List.getElem?_toArray]
        rw [List.append_assoc, List.getElem?_append_left (by simp; omega), List.getElem?_take_of_lt hmlt]; simp
      obtain ⟨hsim, hle'⟩ := hs.grew (j := j) (b := b) (n := es.length) (n' := es.length + xs.length) (g := off + (es.length + xs.length) * ti.size) (w' := e.w.setRow b cs') ⟨rfl, rfl⟩ hj (by omega) (.inl ⟨hm, hbl⟩) (by rw [hg, Nat.add_mul]; omega) (by simp) (by simpa using hbl)
        (fun b' _ hne => setRow_other _ _ _ _ hne) (fun m hmlt => by
          rw [hg] at hmlt
          unfold World.cell?
          simp only [setRow_heap _ _ _ _ _ _ hh, hh]
          simpa using hget m hmlt) (fun b' hb' h => by subst h; simp at hb'; omega)
      rw [hrun]
      refine hK _ _ (hsim.put hd ?_) (fun q hq => by simp [Env.grew, hq])
      rw [Rep]
      refine ⟨_, _, _, rfl, by simp, hfit, (fun h => by cases h), fun q hq => ?_, fun ad had => ?_, by simpa [Env.grew] using hjl, ⟨es.length + xs.length, by rw [Env.grew_T hjl, if_pos rfl], by simp⟩, fun _ ad had hlt => ?_⟩
      · rcases List.mem_append.1 hq with h | h
        · exact hsz q h
        · exact hxsz q h
      · simp only [Option.some.injEq] at had; subst had
        refine ⟨fun _ => rfl, ElemsAt.append (ElemsAt.mono hle' es hel) hsz (ElemsAt.flat.2 ?_)⟩
        refine CellsAt.of_values (cs := cs') (t := ct) (fr := (0, 0)) (by simpa [Env.grew] using setRow_heap _ _ _ _ _ _ hh) (RepL.mono hle' _ hnw) hsrc.one (fun m q hm' => ?_) ?_
        · rw [← hcs']
          simp only [List.getElem?_toArray]
          have hml := lt_of_get? hm'
          rw [List.getElem?_append_left (by simp; omega), List.getElem?_append_right (by simp; omega)]
          rw [show off + es.length * ti.size + m - (cs.toList.take (off + es.length * ti.size)).length = m by simp; omega]
          exact hm'
        · simp only [Env.grew, if_true]; rw [hnl, Nat.add_mul]; omega
      · simp only [Option.some.injEq] at had; subst had
        exact ⟨by simp [Env.grew], by simp [Env.grew], cs', ct, by simpa [Env.grew] using setRow_heap _ _ _ _ _ _ hh, by dsimp only; omega⟩
  · -- it does not: a new row
    obtain ⟨cap', cs, w', hrun, hw, hst, hle2, hcs, hcells, hall⟩ := run_append_row (P := c.P) (t := t) (cap := cap) hs.ok hf hk rfl (fun h => by have := hnil h; omega) hsz (fun ad h => ⟨fun h2 => (hc ad h).1 (by omega), (hc ad h).2⟩) hv (by omega) hb h63
    have hwsz : w'.heap.size = e.w.heap.size + 1 := by simp [hw]
    obtain ⟨hsim, hle'⟩ := hs.grew (j := j) (b := e.w.heap.size) (n := es.length) (n' := es.length + xs.length) (g := (es.length + xs.length) * sz) (w' := w') hst hj (by omega) (.inr rfl) (by rw [hs.ok.fresh _ (Nat.le_refl _)]; omega) (by simp [hw]) (by simp [hw])
      (fun b' hb' hne => by rw [hw, Array.getElem?_push, if_neg hne]) (fun m hmlt => by rw [hs.ok.fresh _ (Nat.le_refl _)] at hmlt; omega) (fun b' hb' h => by omega)
    rw [hrun]
    refine hK _ _ (hsim.put hd ?_) (fun q hq => by simp [Env.grew, hq])
    rw [Rep]
    refine ⟨_, _, _, rfl, by simp, hle2, (fun h => by cases h), hall, fun ad had => ?_, by simpa [Env.grew] using hjl, ⟨es.length + xs.length, by rw [Env.grew_T hjl, if_pos rfl], by simp⟩, fun _ ad had hlt => ?_⟩
    · simp only [Option.some.injEq] at had; subst had
      refine ⟨fun _ => rfl, ElemsAt.flat.2 ?_⟩
      obtain ⟨vs, q1, q2, q3⟩ := hcells.values
      have hxt : Ext e (e.row ((es.length + xs.length) * sz) w') := Env.row_ext hs.ok hw hst
      have le3 : (e.row ((es.length + xs.length) * sz) w').Le (e.grew j e.w.heap.size (es.length + xs.length) ((es.length + xs.length) * sz) w') := by
        have hT : ∀ i, (e.row ((es.length + xs.length) * sz) w').T i = e.T i := fun i => rfl
        refine ⟨by simp [Env.grew, Env.row], fun i hi ht => ?_, fun b' off ho => ⟨ho, rfl⟩, fun i m ht => ?_⟩
        · rw [hT] at ht
          have hij : i ≠ j := fun h => by subst h; rw [hTj] at ht; cases ht
          rw [Env.grew_T hjl, if_neg hij]; exact ⟨ht, fun _ hb => by simpa [Env.grew, hij, Env.row] using hb⟩
        · rw [hT] at ht
          by_cases hij : i = j
          · subst hij
            have : m = es.length := by rw [hTj] at ht; exact (Option.some.inj ht).symm
            subst this
            exact ⟨_, by rw [Env.grew_T hjl, if_pos rfl], by omega, fun h => by omega⟩
          · exact ⟨m, by rw [Env.grew_T hjl, if_neg hij]; exact ht, Nat.le_refl _, fun _ => ⟨by simp [Env.grew, hij, Env.row], fun b' cs t _ hh => ⟨rfl, cs, hh, rfl⟩⟩⟩
      exact CellsAt.mono le3 _ hcells
    · simp only [Option.some.injEq] at had; subst had
      exact ⟨by simp [Env.grew], by simp [Env.grew], cs, et, by simp [Env.grew, hw], by simp [hcs]⟩
theorem effl_store {st : TypeId} {x y : Operand} {a : AV} {j off n : Nat} {bb : Bool} {l m : List AV} (hd : dOK c.nt d = true)
    (hx : Less (ρ x) (.ptr j off)) (hy : Less (ρ y) a) (hm : a.cells = some m) (ht : tySz c.P st = some (bb, n)) (hn : Nat.beq m.length n = true) (hle : Nat.ble (off + n) l.length = true) :
    EffL c Q ⟨d, .store st x y, t, p, af, none⟩ j (.cells l) (.cells (l.take off ++ m ++ l.drop (off + m.length))) df ρ .any := by
  intro s e ac hs hj _ hop next hK
  have hx : Less (s.op x) (.ptr j off) := by rw [hop x (by simp [Op.operands])]; exact hx
  have hy : Less (s.op y) a := by rw [hop y (by simp [Op.operands])]; exact hy
  have hn := Nat.eq_of_beq_eq_true hn
  have hle := Nat.le_of_ble_eq_true hle
  obtain ⟨h1, h2⟩ := rep_cells (hy e _ (hs.op y)) hm
  have hp := hx e _ (hs.op x)
  rw [Rep] at hp
  obtain ⟨a1, a2, b, hb, hpv⟩ := hp
  obtain ⟨b', cs, ct, k1, k2, k3, k4, k5⟩ := hs.ok.objs j _ (by rw [hs.H]; exact hj)
  rw [hb] at k1; cases k1
  have hl1 := h1.length
  have hl4 := k4.length
  have hrun := run_storeVar (P := c.P) (w := e.w) (off := off) (v := ac.eval y) k3 ht (by simpa [hn] using hl1) (by simp at hl4; omega) h2
  have hsim := hs.setObj (l := l.take off ++ m ++ l.drop (off + m.length)) (cs := (cs.toList.take off ++ (ac.eval y).cells.toList ++ cs.toList.drop (off + (ac.eval y).cells.toList.length)).toArray) hj hb k2 k3
    (by simpa using RepL.splice k4 h1 off) (by
      intro z hz
      simp only [List.mem_append] at hz
      rcases hz with (hz | hz) | hz
      · exact k5 z (List.mem_of_mem_take hz)
      · exact h2 z hz
      · exact k5 z (List.mem_of_mem_drop hz))
  refine ⟨about_FW _ _ _ _ _, ?_⟩
  show Oper.uponIn (FW c.r) 0 c.P _ ac next (lift c Q) (((Oper.semAt c.r ac.eval ⟨d, .store st x y, t, p, af, none⟩)).run c.P e.w)
  rw [semAt_of (by intro c h; cases h)]
  have : (execOp ac.eval ⟨d, .store st x y, t, p, af, none⟩).run c.P e.w = .ok .skip (e.w.setRow b (cs.toList.take off ++ (ac.eval y).cells.toList ++ cs.toList.drop (off + (ac.eval y).cells.toList.length)).toArray) := by
    simp [execOp, Instr.storeAt, hpv, Instr.sureAddr, hrun]
  rw [this]
  exact hK _ _ (hsim.put hd (by rw [Rep]; trivial)) (fun q _ => rfl)
theorem fresh_make {Hc : List AObj} {st : TypeId} {x y : Operand} {n id : Nat} {cs : List Value} (hd : dOK c.nt d = true) (hf : makeB c.P st n = some cs) (hn : n ≤ 1000000)
    (hx : Less (ρ x) (.raw (.int .i64 n))) (hy : Less (ρ y) (.raw (.int .i64 n))) :
    FreshOK c Q Hc ⟨d, .makeSlice st x y, t, p, af, none⟩ ρ id (.cells (cs.map .raw)) (.msl id 0 n n) := by
  intro s e a hs _ hops hdead hμ K hK
  have hdead : e.H[id]? = some .dead := by rw [hs.H]; exact hdead
  have hu := rep_raw hx (hops x (by simp [Op.operands]))
  have hv := rep_raw hy (hops y (by simp [Op.operands]))
  obtain ⟨et, ti, z, k1, k2, k3, k4, k5, k6⟩ := makeB_ex hf
  have hrun := run_make (P := c.P) e.w st et ti z k1 k2 k3 .i64 .i64 (n : Int) (n : Int) (by omega) (Int.le_refl _) (by rw [← Int.natCast_mul]; omega) (by omega)
  simp only [Int.toNat_natCast] at hrun
  have hrl : RepL e (cs.map .raw) (madeCells z.cells (n * ti.size)).toList := by rw [k5]; exact RepL.raws cs
  have hcell : ∀ q ∈ (madeCells z.cells (n * ti.size)).toList, isCell q = true := by
    rw [k5]; exact fun q hq => List.all_eq_true.1 k6 q hq
  obtain ⟨ok', fr'⟩ := Env.place_ok (bt := et) hs.ok hs.fr hdead hμ hrl hcell
  have le := Env.place_le hs.ok (l := cs.map .raw) (ob := .cells (madeCells z.cells (n * ti.size)) et) hdead hμ
  have hidl := lt_of_get? hdead
  refine ⟨about_FW _ _ _ _ _, ?_⟩
  show Oper.uponIn (FW c.r) 0 c.P _ a K (lift c Q) (((Oper.semAt c.r a.eval ⟨d, .makeSlice st x y, t, p, af, none⟩)).run c.P e.w)
  rw [semAt_of (by intro c h; cases h)]
  have hex : (execOp a.eval ⟨d, .makeSlice st x y, t, p, af, none⟩).run c.P e.w = ((Instr.makeSlice st (.int .i64 n) (.int .i64 n)).run c.P e.w).andThen fun v w'' => .ok (.value v) w'' := by
    simp [execOp, hu, hv]
  rw [hex, hrun]
  have hsim0 : Sim c { s with H := s.H.set id (.cells (cs.map .raw)) } (e.place id (cs.map .raw) (.cells (madeCells z.cells (n * ti.size)) et)) a :=
    ⟨hs.size, fun t => Rep.mono le _ (hs.slots t), hs.defers.mono le, by simp [Env.place, hs.H], ok', fr'⟩
  refine hK _ _ (hsim0.put hd ?_) fun j _ hne => by simp [Env.place, hne]
  rw [Rep]
  exact ⟨by simpa [Env.place] using hidl, by rw [Env.place_T hdead]; unfold Env.T; rw [hdead]; rfl, e.w.heap.size, by simp [Env.place], rfl, Nat.le_refl _⟩
end eff
end Go.Ab
namespace Go.Ab
variable [Tabs]
def FzA (m0 : Nat) (H : List AObj) (a a' : AV) : Prop := ∀ e e' : Env, e.Le e' → (∀ q n l, m0 ≤ q → H[q]? = some (.cells l) → l.length = n → ∀ v, Rep e (.msl q 0 n n) v → Rep e' (.sl 1 (l.map fun x => [x])) v) → ∀ v, Rep e a v → Rep e' a' v
theorem FzA.same {m0 : Nat} {H : List AObj} (a : AV) : FzA m0 H a a := fun _ _ le _ _ h => Rep.mono le a h
theorem FzA.row {m0 : Nat} {H : List AObj} {q n : Nat} {l : List AV} (h : m0 ≤ q) (hq : H[q]? = some (.cells l)) (hn : l.length = n) : FzA m0 H (.msl q 0 n n) (.sl 1 (l.map fun x => [x])) := fun _ _ _ k v hv => k q n l h hq hn v hv
def FzAL (m0 : Nat) (H : List AObj) : List AV → List AV → Prop
  | [], [] => True
  | a :: l, a' :: l' => FzA m0 H a a' ∧ FzAL m0 H l l'
  | _, _ => False
theorem FzAL.cells {m0 : Nat} {H : List AObj} {e e' : Env} (le : e.Le e') (k : ∀ q n l, m0 ≤ q → H[q]? = some (.cells l) → l.length = n → ∀ v, Rep e (.msl q 0 n n) v → Rep e' (.sl 1 (l.map fun x => [x])) v) :
    ∀ {l l' : List AV} {b off : Nat}, FzAL m0 H l l' → CellsAt e l b off → CellsAt e' l' b off
  | [], [], _, _, _, _ => by rw [CellsAt]; trivial
  | a :: l, a' :: l', b, off, h, hc => by
    rw [FzAL] at h
    rw [CellsAt] at hc ⊢
    obtain ⟨⟨h1, v, h2, h3, h4⟩, h5⟩ := hc
    obtain ⟨c1, c2⟩ := le.cell b off h1
    exact ⟨⟨c1, v, c2.trans h2, h.1 e e' le k v h3, h4⟩, FzAL.cells le k h.2 h5⟩
  | [], _ :: _, _, _, h, _ => h.elim
  | _ :: _, [], _, _, h, _ => h.elim
theorem FzA.iptr {m0 : Nat} {H : List AObj} {l l' : List AV} (h : FzAL m0 H l l') : FzA m0 H (.iptr l) (.iptr l') := fun e e' le k v hv => by
  rw [Rep] at hv ⊢
  obtain ⟨b, off, h1, h2⟩ := hv
  exact ⟨b, off, h1, FzAL.cells le k h h2⟩
def FzAE (m0 : Nat) (H : List AObj) : List (List AV) → List (List AV) → Prop
  | [], [] => True
  | c :: es, c' :: es' => c.length = c'.length ∧ FzAL m0 H c c' ∧ FzAE m0 H es es'
  | _, _ => False
theorem FzAE.len {m0 : Nat} {H : List AObj} : ∀ {es es' : List (List AV)}, FzAE m0 H es es' → es'.length = es.length
  | [], [], _ => rfl
  | _ :: es, _ :: es', h => by simp [FzAE.len (es := es) (es' := es') h.2.2]
  | [], _ :: _, h => h.elim
  | _ :: _, [], h => h.elim
theorem FzAE.sz {m0 sz : Nat} {H : List AObj} : ∀ {es es' : List (List AV)}, FzAE m0 H es es' → (∀ c ∈ es, c.length = sz) → ∀ c ∈ es', c.length = sz
  | [], [], _, _, c, hc => by cases hc
  | d :: es, d' :: es', h, hs, c, hc => by
    rcases List.mem_cons.1 hc with rfl | hc
    · rw [← h.1]; exact hs d (by simp)
    · exact FzAE.sz h.2.2 (fun c hc => hs c (List.mem_cons_of_mem _ hc)) c hc
  | [], _ :: _, h, _, _, _ => h.elim
  | _ :: _, [], h, _, _, _ => h.elim
theorem FzAE.elems {m0 : Nat} {H : List AObj} {e e' : Env} (le : e.Le e') (k : ∀ q n l, m0 ≤ q → H[q]? = some (.cells l) → l.length = n → ∀ v, Rep e (.msl q 0 n n) v → Rep e' (.sl 1 (l.map fun x => [x])) v) :
    ∀ {es es' : List (List AV)} {b off : Nat}, FzAE m0 H es es' → ElemsAt e es b off → ElemsAt e' es' b off
  | [], [], _, _, _, _ => by rw [ElemsAt]; trivial
  | c :: es, c' :: es', b, off, h, hc => by
    rw [ElemsAt] at hc ⊢
    exact ⟨FzAL.cells le k h.2.1 hc.1, by rw [← h.1]; exact FzAE.elems le k h.2.2 hc.2⟩
  | [], _ :: _, _, _, h, _ => h.elim
  | _ :: _, [], _, _, h, _ => h.elim
theorem FzA.sl {m0 sz : Nat} {H : List AObj} {es es' : List (List AV)} (h : FzAE m0 H es es') : FzA m0 H (.sl sz es) (.sl sz es') := fun e e' le k v hv => by
  rw [Rep] at hv ⊢
  obtain ⟨a, len, cap, h1, h2, h3, h4, h5, h6⟩ := hv
  exact ⟨a, len, cap, h1, by rw [h2, h.len], h3, h4, h.sz h5, fun ad had => ⟨(h6 ad had).1, FzAE.elems le k h (h6 ad had).2⟩⟩
theorem FzAE.map {m0 : Nat} {H : List AObj} {α : Type} {f g : α → List AV} : ∀ {l : List α}, (∀ a ∈ l, (f a).length = (g a).length ∧ FzAL m0 H (f a) (g a)) → FzAE m0 H (l.map f) (l.map g)
  | [], _ => trivial
  | a :: l, h => ⟨(h a (by simp)).1, (h a (by simp)).2, FzAE.map fun b hb => h b (List.mem_cons_of_mem _ hb)⟩
theorem flat1 : ∀ l : List AV, (l.map fun x => [x]).flatten = l
  | [] => rfl
  | x :: l => by rw [List.map_cons, List.flatten_cons, flat1 l]; rfl
open Classical in
/-- **All rows from m0 on** are written no more. -/
theorem sub_freezeA {c : Ctx} {s : St} (m0 : Nat) {sl' : List (Nat × AV)} (hm : m0 ≤ s.H.length) (hnt : ∀ q, m0 ≤ q → tokOf (s.H[q]?) = none) (hsl : ∀ q ∈ sl', FzA m0 s.H (sget s.sl q.1) q.2) : Sub c s ⟨sl', s.H.take m0 ++ List.replicate (s.H.length - m0) .dead, s.df⟩ := by
  intro e a hs
  obtain ⟨isR, hisR⟩ : ∃ isR : Nat → Prop, ∀ b, isR b ↔ ∃ q l, m0 ≤ q ∧ s.H[q]? = some (.cells l) ∧ e.μ q = some b := ⟨_, fun _ => Iff.rfl⟩
  obtain ⟨szB, hszB⟩ : ∃ szB : Nat → Nat, ∀ b cs t, e.w.heap[b]? = some (.cells cs t (0, 0)) → szB b = cs.size := ⟨fun b => match e.w.heap[b]? with | some (.cells cs _ _) => cs.size | _ => 0, fun b cs t h => by simp only [h]⟩
  obtain ⟨H', hH'⟩ : ∃ H', H' = s.H.take m0 ++ List.replicate (s.H.length - m0) .dead := ⟨_, rfl⟩
  have hlen : H'.length = e.H.length := by rw [hH', hs.H]; simp; omega
  obtain ⟨e', he'⟩ : ∃ e' : Env, e' = { H := H', μ := e.μ, G := fun b => if isR b then szB b else e.G b, w := e.w } := ⟨_, rfl⟩
  have hget : ∀ q, q < m0 → H'[q]? = s.H[q]? := fun q hq => by rw [hH', List.getElem?_append_left (by rw [List.length_take]; omega), List.getElem?_take_of_lt hq]
  have hget2 : ∀ q o, m0 ≤ q → H'[q]? = some o → o = .dead := fun q o hq ho => by
    rw [hH', List.getElem?_append_right (by rw [List.length_take]; omega), List.getElem?_replicate] at ho
    split at ho
    · exact (Option.some.inj ho).symm
    · cases ho
  have hT : ∀ q, e'.T q = e.T q := fun q => by
    rw [he']; unfold Env.T; simp only
    rw [hs.H]
    rcases Nat.lt_or_ge q m0 with h | h
    · rw [hget q h]
    · rw [hnt q h]
      cases ho : H'[q]? with
      | none => rfl
      | some o => rw [hget2 q o h ho]; rfl
  have row : ∀ b, isR b → ∃ q l cs t, m0 ≤ q ∧ s.H[q]? = some (.cells l) ∧ e.μ q = some b ∧ e.G b = 0 ∧ e.w.heap[b]? = some (.cells cs t (0, 0)) ∧ RepL e l cs.toList ∧ (∀ z ∈ cs.toList, isCell z = true) := fun b hb => by
    obtain ⟨q, l, h1, h2, h3⟩ := (hisR b).1 hb
    obtain ⟨b', cs, t, k1, k2, k3, k4, k5⟩ := hs.ok.objs q _ (by rw [hs.H]; exact h2)
    rw [h3] at k1; cases k1
    exact ⟨q, l, cs, t, h1, h2, h3, k2, k3, k4, k5⟩
  have hnR : ∀ q b, q < m0 → q < e.H.length → e.μ q = some b → ¬ isR b := fun q b hq hql hm2 hb => by
    obtain ⟨q2, l, h1, h2, h3⟩ := (hisR b).1 hb
    have := hs.ok.inj q q2 b hql (by rw [hs.H]; exact lt_of_get? h2) hm2 h3
    omega
  have le : e.Le e' := by
    refine ⟨by rw [he']; exact Nat.le_of_eq hlen.symm, fun q hq ht => ⟨by rw [hT]; exact ht, fun b' hb' => by rw [he']; exact hb'⟩, fun b' off ho => ?_, fun q m ht => ⟨m, by rw [hT]; exact ht, Nat.le_refl _, fun _ => ⟨by rw [he'], fun b' cs' t' hm2 hh => ?_⟩⟩⟩
    · by_cases h : isR b'
      · obtain ⟨_, _, _, _, _, _, _, h0, _⟩ := row b' h
        rw [h0] at ho; exact absurd ho (Nat.not_lt_zero _)
      · rw [he']; exact ⟨by simp only [if_neg h]; exact ho, rfl⟩
    · have hq : q < m0 := by
        rcases Nat.lt_or_ge q m0 with k | k
        · exact k
        · unfold Env.T at ht; rw [hs.H, hnt q k] at ht; cases ht
      rw [he']
      exact ⟨by simp only [if_neg (hnR q b' hq (by rw [hs.H]; omega) hm2)], cs', hh, rfl⟩
  have key : ∀ q n l, m0 ≤ q → s.H[q]? = some (.cells l) → l.length = n → ∀ v, Rep e (.msl q 0 n n) v → Rep e' (.sl 1 (l.map fun x => [x])) v := by
    intro q n l hq hl hn v hv
    rw [Rep] at hv
    obtain ⟨_, _, b, hb, rfl, _⟩ := hv
    have hR : isR b := (hisR b).2 ⟨q, l, hq, hl, hb⟩
    obtain ⟨b', cs, t, k1, k2, k3, k4, k5⟩ := hs.ok.objs q _ (by rw [hs.H]; exact hl)
    rw [hb] at k1; cases k1
    have hcl := k4.length
    have hflat := flat1 l
    rw [Rep]
    refine ⟨_, _, _, rfl, by rw [List.length_map, hn], Nat.le_refl _, (fun h => by cases h), fun c hc => by obtain ⟨x, _, rfl⟩ := List.mem_map.1 hc; rfl, fun ad had => ?_⟩
    cases had
    refine ⟨fun _ => rfl, ElemsAt.flat.2 ?_⟩
    rw [hflat]
    exact CellsAt.of_values (e := e') (cs := cs) (t := t) (fr := (0, 0)) (by rw [he']; exact k3) (RepL.mono le _ k4) k5 (fun m q hm' => by simpa using hm') (by rw [he']; simp only [if_pos hR, hszB b cs t k3, Nat.zero_add, Array.length_toList]; exact Nat.le_refl _)
  refine ⟨e', by rw [he'], hs.size, fun t => ?_, hs.defers.mono le, by rw [he', hH'], ⟨fun b' hb' => ?_, fun q o' ho => ?_, fun q r b' hq hr h1 h2 => ?_, fun q b' hq h1 => ?_, hs.ok.tabs.sub (by rw [he']) fun q b' hq h1 => ⟨q, by rw [he'] at hq; have : q < H'.length := hq; omega, by rw [he'] at h1; exact h1⟩⟩, ⟨by rw [he']; exact hs.fr.size, by rw [he']; exact hs.fr.still, fun b' hb' hno => ?_, fun q b' hq h1 => ?_, hs.fr.le.trans le⟩⟩
  · have hfz : ∀ (sl : List (Nat × AV)), (∀ q ∈ sl, FzA m0 s.H (sget s.sl q.1) q.2) → Rep e' (sget sl t) (a.tmps.getD t undef) := by
      intro sl
      induction sl with
      | nil => intro _; show Rep e' .any _; rw [Rep]; trivial
      | cons x sl ih =>
        intro h
        obtain ⟨u, av⟩ := x
        simp only [sget]
        cases hb : u == t with
        | true =>
          have : u = t := by simpa using hb
          subst this
          exact h (u, av) (by simp) e e' le key _ (hs.slots u)
        | false => exact ih (fun q hq => h q (List.mem_cons_of_mem _ hq))
    exact hfz sl' hsl
  · rw [he'] at hb' ⊢
    have hn : ¬ isR b' := fun h => by
      obtain ⟨_, _, _, _, _, _, _, _, h3, _⟩ := row b' h
      exact Nat.lt_irrefl _ (Nat.lt_of_lt_of_le (lt_of_heap h3) hb')
    simp only [if_neg hn]; exact hs.ok.fresh b' hb'
  · have ho2 : H'[q]? = some o' := by rw [he'] at ho; exact ho
    rcases Nat.lt_or_ge q m0 with h | h
    · have h3 : e.H[q]? = some o' := by rw [hs.H, ← hget q h]; exact ho2
      exact ObjSim.mono le (hs.ok.objs q o' h3) (by rw [he']) (fun b' hb' => by
        rw [he']; exact ⟨rfl, by simp only [if_neg (hnR q b' h (lt_of_get? h3) hb')]⟩)
    · rw [hget2 q o' h ho2]; trivial
  · rw [he'] at hq hr h1 h2
    exact hs.ok.inj q r b' (by have : q < H'.length := hq; omega) (by have : r < H'.length := hr; omega) h1 h2
  · rw [he'] at hq h1
    have := hs.ok.live q b' (by have : q < H'.length := hq; omega) h1
    rw [he']; exact this
  · have hn : ¬ isR b' := fun h => by
      obtain ⟨q, l, cs, t, h1, h2, h3, _⟩ := row b' h
      rcases hs.fr.objs q b' (by rw [hs.H]; exact lt_of_get? h2) h3 with h4 | ⟨j, hj, h4⟩
      · omega
      · exact hno j hj h4
    obtain ⟨h4, h5⟩ := hs.fr.heap b' hb' hno
    rw [he']; exact ⟨h4, by simp only [if_neg hn]; exact h5⟩
  · rw [he'] at hq h1
    exact hs.fr.objs q b' (by have : q < H'.length := hq; omega) h1
end Go.Ab
namespace Go.Ab
variable [Tabs]
theorem setCells_heap {b : Nat} {t : TypeId} : ∀ (vs : List Value) (o : Nat) (w : World) (cs : Array Value), w.heap[b]? = some (.cells cs t (0, 0)) → o + vs.length ≤ cs.size →
    (w.setCells b o vs).heap[b]? = some (.cells (cs.toList.take o ++ vs ++ cs.toList.drop (o + vs.length)).toArray t (0, 0))
  | [], o, w, cs, h, _ => by
    rw [World.setCells, h]; simp
  | v :: r, o, w, cs, h, hl => by
    simp only [List.length_cons] at hl
    rw [World.setCells, setCells_heap r (o + 1) _ _ (heap_setCell_same w b o cs t v h) (by simp; omega)]
    have e1 : (cs.setIfInBounds o v).toList = cs.toList.set o v := by simp
    rw [e1, List.take_set, List.drop_set_of_lt (by omega)]
    have e2 : (cs.toList.take (o + 1)).set o v = cs.toList.take o ++ [v] := by
      rw [List.set_eq_take_append_cons_drop, if_pos (by rw [List.length_take]; simp; omega), List.take_take, List.drop_take]
      simp
    rw [e2, List.length_cons, show o + 1 + r.length = o + (r.length + 1) by omega]
    simp
theorem setCells_other {b q : Nat} (h : q ≠ b) : ∀ (vs : List Value) (o : Nat) (w : World), (w.setCells b o vs).heap[q]? = w.heap[q]?
  | [], _, _ => rfl
  | v :: r, o, w => by rw [World.setCells, setCells_other h r, heap_setCell_other _ _ _ _ h]
theorem setCells_size (b : Nat) : ∀ (vs : List Value) (o : Nat) (w : World), (w.setCells b o vs).heap.size = w.heap.size
  | [], _, _ => rfl
  | v :: r, o, w => by rw [World.setCells, setCells_size b r]; simp [World.setCell]
theorem setCells_still (b : Nat) : ∀ (vs : List Value) (o : Nat) (w : World), Still w (w.setCells b o vs)
  | [], _, _ => Still.refl _
  | v :: r, o, w => by rw [World.setCells]; exact Still.trans ⟨rfl, rfl⟩ (setCells_still b r _ _)
theorem Sim.reworld {c : Ctx} {s : St} {e : Env} {a : Act} (hs : Sim c s e a) {i b : Nat} {l l0 : List AV} {cs cs0 : Array Value} {ct : TypeId} {w' : World} (h : s.H[i]? = some (.cells l0)) (hb : e.μ i = some b) (hg : e.G b = 0)
    (hh : e.w.heap[b]? = some (.cells cs0 ct (0, 0))) (hl : RepL e l cs.toList) (h1 : ∀ c ∈ cs.toList, isCell c = true) (hst : Still e.w w') (hsz : e.w.heap.size ≤ w'.heap.size)
    (hold : ∀ q, q < e.w.heap.size → q ≠ b → w'.heap[q]? = e.w.heap[q]?) (hnew : w'.heap[b]? = some (.cells cs ct (0, 0))) :
    ∃ e' : Env, e'.w = w' ∧ e'.μ = e.μ ∧ e'.H = s.H.set i (.cells l) ∧ Sim c { s with H := s.H.set i (.cells l) } e' a := by
  have h2 := hs.setObj h hb hg hh hl h1
  have x : Ext (e.setObj i b l cs) { (e.setObj i b l cs) with w := w' } := ⟨rfl, fun _ _ => rfl, by simpa [Env.setObj] using hsz, by show Still (e.w.setRow b cs) w'; exact ⟨hst.1, hst.2⟩, fun q hq => by
    show w'.heap[q]? = (e.w.setRow b cs).heap[q]?
    have hq : q < e.w.heap.size := by simpa [Env.setObj] using hq
    by_cases e1 : q = b
    · subst e1; rw [hnew, setRow_heap _ _ _ _ _ _ hh]
    · rw [hold q hq e1, setRow_other _ _ _ _ e1], fun _ _ => rfl, fun q hq => h2.ok.fresh q (Nat.le_trans (by simpa [Env.setObj] using hsz) hq)⟩
  exact ⟨{ (e.setObj i b l cs) with w := w' }, rfl, rfl, by show e.H.set i _ = _; rw [hs.H], h2.ext x⟩
theorem Sim.newrow {c : Ctx} {s : St} {e : Env} {a : Act} (hs : Sim c s e a) {l : List AV} {cs : Array Value} {ct : TypeId} {w' : World} (hl : RepL e l cs.toList) (h1 : ∀ c ∈ cs.toList, isCell c = true) (hst : Still e.w w')
    (hold : ∀ q, q < e.w.heap.size → w'.heap[q]? = e.w.heap[q]?) (hnew : w'.heap[e.w.heap.size]? = some (.cells cs ct (0, 0))) :
    ∃ e' : Env, e'.w = w' ∧ e'.μ s.H.length = some e.w.heap.size ∧ e'.H = s.H ++ [.cells l] ∧ Sim c { s with H := s.H ++ [.cells l] } e' a := by
  have h2 := hs.push (push_cells (t := ct) hs.ok hl h1)
  have hsz : e.w.heap.size + 1 ≤ w'.heap.size := lt_of_heap hnew
  have x : Ext (e.push (.cells l) (.cells cs ct)) { (e.push (.cells l) (.cells cs ct)) with w := w' } := ⟨rfl, fun _ _ => rfl, by show (e.w.heap.push _).size ≤ _; rw [Array.size_push]; exact hsz, ⟨hst.1, hst.2⟩, fun q hq => by
    have hq : q < e.w.heap.size + 1 := by have h : q < (e.w.heap.push (Obj.cells cs ct (0, 0))).size := hq; rwa [Array.size_push] at h
    show w'.heap[q]? = (e.w.alloc _).heap[q]?
    by_cases e1 : q = e.w.heap.size
    · subst e1; rw [hnew, alloc_heap_new]
    · rw [hold q (by omega), alloc_heap_old _ _ (by omega)], fun _ _ => rfl, fun q hq => h2.ok.fresh q (Nat.le_trans (by show (e.w.heap.push _).size ≤ _; rw [Array.size_push]; exact hsz) hq)⟩
  exact ⟨{ (e.push (.cells l) (.cells cs ct)) with w := w' }, rfl, by show (if s.H.length = e.H.length then _ else _) = _; rw [if_pos (by rw [hs.H])], by show e.H ++ _ = _; rw [hs.H], h2.ext x⟩
structure InsOK (P : Program) (f : FuncId) : Prop where
  ins : ∀ (w : World) (b vb n cap c1 at' : Nat) (cs cv : Array Value) (ct cvt : TypeId) (x : Value), w.heap[b]? = some (.cells cs ct (0, 0)) → w.heap[vb]? = some (.cells cv cvt (0, 0)) → vb ≠ b → at' ≤ n → 0 < n → n ≤ cap → cap = cs.size → cap ≤ 9223372036854775807 →
    (n + 1) * 8 ≤ 140737488355328 → cv[0]? = some x → (∀ v ∈ cs.toList.take n, v.oneCell' = true) → x.oneCell' = true →
    Calls P f #[.slice (some ⟨b, 0, none⟩) n cap, .int .i64 at', .slice (some ⟨vb, 0, none⟩) 1 c1] w fun r w' => ∃ b' c' ct' zs, r = .returned (.slice (some ⟨b', 0, none⟩) (n + 1) c') ∧ n + 1 ≤ c' ∧
      w'.heap[b']? = some (.cells (cs.toList.take at' ++ x :: ((cs.toList.take n).drop at' ++ zs)).toArray ct' (0, 0)) ∧ (∀ v ∈ zs, v ∈ cs.toList ∨ v.oneCell' = true) ∧
      Still w w' ∧ w.heap.size ≤ w'.heap.size ∧ (∀ q, q < w.heap.size → q ≠ b → w'.heap[q]? = w.heap[q]?) ∧ ((b' = b ∧ ct' = ct) ∨ (b' = w.heap.size ∧ w'.heap[b]? = w.heap[b]?))
  nil : ∀ (w : World) (vb c1 : Nat) (a : Option Addr) (cv : Array Value) (cvt : TypeId) (x : Value), w.heap[vb]? = some (.cells cv cvt (0, 0)) → cv[0]? = some x → x.oneCell' = true →
    Calls P f #[.slice a 0 0, .int .i64 0, .slice (some ⟨vb, 0, none⟩) 1 c1] w fun r w' => ∃ c' ct' zs, r = .returned (.slice (some ⟨w.heap.size, 0, none⟩) 1 c') ∧ 1 ≤ c' ∧
      w'.heap[w.heap.size]? = some (.cells (x :: zs).toArray ct' (0, 0)) ∧ (∀ v ∈ zs, v.oneCell' = true) ∧ Still w w' ∧ w.heap.size ≤ w'.heap.size ∧ ∀ q, q < w.heap.size → w'.heap[q]? = w.heap[q]?
abbrev insL (zs : List Int) (k : Nat) (x : Int) : List Int := zs.take k ++ x :: zs.drop k
/-- **slices.Insert**: the row or a new one begins with the numbers -/
theorem acall_insert {P : Program} {f : FuncId} (K : InsOK P f) {zs : List Int} {x : Int} {at' j k cap c1 : Nat} {H : List AObj} {r2 : List AV} (hjk : j ≠ k) (hj : H[j]? = some (.cells (numL zs ++ List.replicate (cap - zs.length) .any)))
    (hk : H[k]? = some (.cells (.raw (.int .i64 x) :: r2))) (hat : at' ≤ zs.length) (hpos : 0 < zs.length) (hcap : zs.length ≤ cap) (hc63 : cap ≤ 9223372036854775807) (hbig : (zs.length + 1) * 8 ≤ 140737488355328) :
    ACall P f [.msl j 0 zs.length cap, .raw (.int .i64 at'), .msl k 0 1 c1] H (fun r H' => ∃ j' cap' rest', r = .ret (.msl j' 0 (zs.length + 1) cap') ∧
      ((j' = j ∧ H' = H.set j (.cells (numL (insL zs at' x) ++ rest'))) ∨ (j' = H.length ∧ H' = H ++ [.cells (numL (insL zs at' x) ++ rest')]))) := by
  intro e vs ok hH hs
  obtain ⟨v1, r1, hv1, h1, hs1⟩ : ∃ v r, vs.toList = v :: r ∧ Rep e (.msl j 0 zs.length cap) v ∧ RepL e [.raw (.int .i64 at'), .msl k 0 1 c1] r := by rw [RepL] at hs; exact hs
  obtain ⟨v2, r2', hv2, h2, hs2⟩ : ∃ v r, r1 = v :: r ∧ Rep e (.raw (.int .i64 at')) v ∧ RepL e [.msl k 0 1 c1] r := by rw [RepL] at hs1; exact hs1
  obtain ⟨v3, r3, hv3, h3, hs3⟩ : ∃ v r, r2' = v :: r ∧ Rep e (.msl k 0 1 c1) v ∧ RepL e [] r := by rw [RepL] at hs2; exact hs2
  rw [RepL] at hs3; subst hs3; subst hv3; subst hv2
  rw [Rep] at h1
  rw [Rep] at h2
  rw [Rep] at h3
  obtain ⟨hjl, hjt, b, hμ, rfl, _⟩ := h1
  obtain ⟨hkl, hkt, vb, hμk, rfl, _⟩ := h3
  subst h2
  obtain rfl : vs = #[.slice (some ⟨b, 0, none⟩) zs.length cap, .int .i64 at', .slice (some ⟨vb, 0, none⟩) 1 c1] := Array.ext' (by simpa using hv1)
  have hje : e.H[j]? = some (.cells (numL zs ++ List.replicate (cap - zs.length) .any)) := by rw [hH]; exact hj
  have hke : e.H[k]? = some (.cells (.raw (.int .i64 x) :: r2)) := by rw [hH]; exact hk
  obtain ⟨b', cs, ct, p1, p2, p3, p4, p5⟩ := ok.objs j _ hje
  rw [hμ] at p1; cases p1
  obtain ⟨vb', cv, cvt, q1, q2, q3, q4, q5⟩ := ok.objs k _ hke
  rw [hμk] at q1; cases q1
  have hne : vb ≠ b := fun e1 => by subst e1; exact hjk (ok.inj j k vb hjl hkl hμ hμk)
  have hcl := p4.length
  have hcs : cs.size = cap := by simp at hcl; omega
  have hx : cv[0]? = some (.int .i64 x) := by
    obtain ⟨u, g1, g2⟩ := q4.get 0 (.raw (.int .i64 x)) rfl
    rw [Rep] at g2; subst g2; simpa using g1
  have htake : cs.toList.take zs.length = zs.map (Value.int .i64) := by
    have g := p4.take zs.length
    rw [List.take_left' (by simp)] at g
    refine List.ext_getElem? fun i => ?_
    by_cases hi : i < zs.length
    · obtain ⟨u, g1, g2⟩ := g.get i (.raw (.int .i64 zs[i])) (by simp [hi])
      rw [Rep] at g2; subst g2
      rw [g1]; simp [hi]
    · rw [List.getElem?_eq_none (by rw [List.length_take]; omega), List.getElem?_eq_none (by simp; omega)]
  have hcall := (callsIn_wide (n := 0)).2 (K.ins e.w b vb zs.length cap c1 at' cs cv ct cvt (.int .i64 x) p3 q3 hne hat hpos hcap hcs.symm hc63 hbig hx (by rw [htake]; intro v hv; obtain ⟨y, _, rfl⟩ := List.mem_map.1 hv; rfl) rfl)
  refine CallsIn.mono (F := FW none) (n := 0) hcall ?_
  rintro r w' ⟨b', c', ct', rs, rfl, hc', hnew, hrs, hst, hsz, hold, hcase⟩
  have sim1 : Sim ⟨P, none, 0, e⟩ ⟨[], H, []⟩ e { tmps := #[], defers := [] } := ⟨rfl, fun t => by rw [show sget [] t = .any from rfl, Rep]; trivial, DRepL.nil, hH, ok, Fr.refl _⟩
  have htk : cs.toList.take at' = (zs.take at').map (Value.int .i64) := by
    have := congrArg (List.take at') htake
    rw [List.take_take, Nat.min_eq_left hat, ← List.map_take] at this; exact this
  have hrow : cs.toList.take at' ++ Value.int .i64 x :: ((cs.toList.take zs.length).drop at' ++ rs) = (insL zs at' x).map (Value.int .i64) ++ rs := by
    rw [htk, htake]; simp
  rw [hrow] at hnew
  have hrep : RepL e (numL (insL zs at' x) ++ List.replicate rs.length .any) ((insL zs at' x).map (Value.int .i64) ++ rs) := (numL_rep _).append (RepL.anys _)
  have hcell : ∀ v ∈ ((insL zs at' x).map (Value.int .i64) ++ rs).toArray.toList, isCell v = true := fun v hv => by
    simp only [List.mem_append] at hv
    rcases hv with hv | hv
    · obtain ⟨y, _, rfl⟩ := List.mem_map.1 hv; rfl
    · rcases hrs v hv with h | h
      · exact p5 v h
      · exact h
  have hil : (insL zs at' x).length = zs.length + 1 := by simp; omega
  rcases hcase with ⟨rfl, rfl⟩ | ⟨rfl, hb⟩
  · obtain ⟨e', he1, he2, he3, sim2⟩ := sim1.reworld (i := j) (l := numL (insL zs at' x) ++ List.replicate rs.length .any) hj hμ p2 p3 (by simpa using hrep) hcell hst hsz hold hnew
    refine ⟨.ret (.msl j 0 (zs.length + 1) c'), e', by rw [he1], sim2.ok, sim2.fr, ⟨j, c', _, rfl, .inl ⟨rfl, he3⟩⟩, _, rfl, ?_⟩
    rw [Rep]
    refine ⟨by rw [he3]; simpa using lt_of_get? hj, ?_, b', by rw [he2]; exact hμ, rfl, hc'⟩
    unfold Env.T; rw [he3, List.getElem?_set_self (lt_of_get? hj)]; rfl
  · obtain ⟨e', he1, he2, he3, sim2⟩ := sim1.newrow (l := numL (insL zs at' x) ++ List.replicate rs.length .any) (by simpa using hrep) hcell hst (fun q hq => by
      by_cases e1 : q = b
      · subst e1; exact hb
      · exact hold q hq e1) hnew
    refine ⟨.ret (.msl H.length 0 (zs.length + 1) c'), e', by rw [he1], sim2.ok, sim2.fr, ⟨H.length, c', _, rfl, .inr ⟨rfl, he3⟩⟩, _, rfl, ?_⟩
    rw [Rep]
    refine ⟨by rw [he3]; simp, ?_, _, he2, rfl, hc'⟩
    unfold Env.T; rw [he3, List.getElem?_append_right (Nat.le_refl _)]; simp [tokOf]
theorem acall_insert_nil {P : Program} {f : FuncId} (K : InsOK P f) {x : Int} {k c1 : Nat} {H : List AObj} {r2 : List AV} (hk : H[k]? = some (.cells (.raw (.int .i64 x) :: r2))) :
    ACall P f [.slx 1 [], .raw (.int .i64 0), .msl k 0 1 c1] H (fun r H' => ∃ cap' rest', r = .ret (.msl H.length 0 1 cap') ∧ H' = H ++ [.cells (numL [x] ++ rest')]) := by
  intro e vs ok hH hs
  obtain ⟨v1, r1, hv1, h1, hs1⟩ : ∃ v r, vs.toList = v :: r ∧ Rep e (.slx 1 []) v ∧ RepL e [.raw (.int .i64 0), .msl k 0 1 c1] r := by rw [RepL] at hs; exact hs
  obtain ⟨v2, r2', hv2, h2, hs2⟩ : ∃ v r, r1 = v :: r ∧ Rep e (.raw (.int .i64 0)) v ∧ RepL e [.msl k 0 1 c1] r := by rw [RepL] at hs1; exact hs1
  obtain ⟨v3, r3, hv3, h3, hs3⟩ : ∃ v r, r2' = v :: r ∧ Rep e (.msl k 0 1 c1) v ∧ RepL e [] r := by rw [RepL] at hs2; exact hs2
  rw [RepL] at hs3; subst hs3; subst hv3; subst hv2
  rw [Rep] at h1
  rw [Rep] at h2
  rw [Rep] at h3
  obtain ⟨a, len, rfl, hlen, _, _, _⟩ := h1
  have hlen : len = 0 := hlen
  subst hlen
  obtain ⟨hkl, hkt, vb, hμk, rfl, _⟩ := h3
  subst h2
  obtain rfl : vs = #[.slice a 0 0, .int .i64 0, .slice (some ⟨vb, 0, none⟩) 1 c1] := Array.ext' (by simpa using hv1)
  have hke : e.H[k]? = some (.cells (.raw (.int .i64 x) :: r2)) := by rw [hH]; exact hk
  obtain ⟨vb', cv, cvt, q1, q2, q3, q4, q5⟩ := ok.objs k _ hke
  rw [hμk] at q1; cases q1
  have hx : cv[0]? = some (.int .i64 x) := by
    obtain ⟨u, g1, g2⟩ := q4.get 0 (.raw (.int .i64 x)) rfl
    rw [Rep] at g2; subst g2; simpa using g1
  have hcall := (callsIn_wide (n := 0)).2 (K.nil e.w vb c1 a cv cvt (.int .i64 x) q3 hx rfl)
  refine CallsIn.mono (F := FW none) (n := 0) hcall ?_
  rintro r w' ⟨c', ct', rs, rfl, hc', hnew, hrs, hst, hsz, hold⟩
  have sim1 : Sim ⟨P, none, 0, e⟩ ⟨[], H, []⟩ e { tmps := #[], defers := [] } := ⟨rfl, fun t => by rw [show sget [] t = .any from rfl, Rep]; trivial, DRepL.nil, hH, ok, Fr.refl _⟩
  have hrep : RepL e (numL [x] ++ List.replicate rs.length .any) (Value.int .i64 x :: rs) := (numL_rep [x]).append (RepL.anys _)
  obtain ⟨e', he1, he2, he3, sim2⟩ := sim1.newrow (l := numL [x] ++ List.replicate rs.length .any) (cs := (Value.int .i64 x :: rs).toArray) (by simpa using hrep) (fun v hv => by
    simp only [List.mem_cons] at hv
    rcases hv with rfl | hv
    · rfl
    · exact hrs v hv) hst hold hnew
  refine ⟨.ret (.msl H.length 0 1 c'), e', by rw [he1], sim2.ok, sim2.fr, ⟨c', _, rfl, he3⟩, _, rfl, ?_⟩
  rw [Rep]
  refine ⟨by rw [he3]; simp, ?_, _, he2, rfl, hc'⟩
  unfold Env.T; rw [he3, List.getElem?_append_right (Nat.le_refl _)]; simp [tokOf]
theorem grownCap_top (w : World) {need : Nat} (old : Nat) (e : TypeId) (h : need ≤ 9223372036854775807) : grownCap w need old e ≤ 9223372036854775807 := by
  have := Nat.mod_lt (w.tape w.drawn (.appendCap need old e)) (show 0 < 2 ^ 63 - need by omega)
  show need + w.tape w.drawn (.appendCap need old e) % (2 ^ 63 - need) ≤ _
  omega
section seq
variable {c : Ctx} {ops : Array Oper} {Q : AExit → St → Prop} {rest : List Oper} {s : St} {i : Nat}
variable {d : Option Tmp} {t : TypeId} {p : String} {af : Array Edge}
theorem sq_append_msl2 {x y : Operand} {st xt et et' : TypeId} {sz bytes : Nat} {xs : List (List AV)} (hd : dOK c.nt d = true)
    (hf : SlFact c.P st et sz bytes) (hk : c.P.underlying xt = some (.slice et')) (hx : Less (s.op x) (.slx sz [])) (hy : Less (s.op y) (.sl sz xs)) (hpos : 0 < xs.length)
    (hb : xs.length * bytes ≤ 140737488355328) (h63 : xs.length ≤ 9223372036854775807)
    (k : ∀ cap, xs.length ≤ cap → cap ≤ 9223372036854775807 → SeqWP c ops Q (i + 1) rest (St.put { s with H := s.H ++ [.cells (xs.flatten ++ List.replicate ((cap - xs.length) * sz) .any)] } d (.msl s.H.length 0 xs.length cap))) :
    SeqWP c ops Q i (⟨d, .call ⟨.builtin .append, #[x, y], #[st, xt]⟩, t, p, af, none⟩ :: rest) s := by
  refine sq_op fun e ac hs next hn' => ?_
  have hu := hx e _ (hs.op x)
  have hv := hy e _ (hs.op y)
  have hu' := hu
  rw [Rep] at hu'
  obtain ⟨a, len, hv1, hlen, hnil, hsz, hc⟩ := hu'
  obtain ⟨olds, ho1, ho2, ho3, _⟩ := slx_read (P := c.P) (cap := len) hlen hnil hsz hc
  have hol : olds = [] := by simpa [RepL] using ho1
  subst hol
  simp only [List.length_nil] at hlen
  subst hlen
  obtain ⟨ti, z, k1, k2, rfl, rfl, k5, k6, k7⟩ := hf.ex
  obtain ⟨news, hsrc, hnw⟩ := src_of hk hv
  have hcap := nextslicecap_le (show 0 < 0 + xs.length by omega)
  have hrun := run_append_grow_src (P := c.P) e.w st xt t et ti z k1 k2 k5 a 0 0 [] ho3 (ac.eval y) xs.length news hsrc (by omega) (by omega) (by
    have := Nat.mul_le_mul_right ti.bytes hcap
    have h2 : 2 * (0 + xs.length) * ti.bytes = 2 * (xs.length * ti.bytes) := by rw [Nat.zero_add, Nat.mul_assoc]
    omega)
  have hle := grownCap_le e.w (0 + xs.length) 0 et
  have hle2 := grownCap_top e.w (need := 0 + xs.length) 0 et (by omega)
  generalize grownCap e.w (0 + xs.length) 0 et = cap at hrun hle hle2
  have hnl : news.length = xs.length * ti.size := hsrc.newsLen
  have hs1 := hs.ext (EnvOK.drew hs.ok)
  have hnw1 : RepL { e with w := { e.w with drawn := e.w.drawn + 1 } } xs.flatten news := RepL.mono ((EnvOK.drew hs.ok).le hs.ok) _ hnw
  have hzl : (Builtin.zeroCells z.cells (cap - (0 + xs.length))).toList.length = (cap - xs.length) * ti.size := by
    simp only [Builtin.zeroCells, Array.toList_map, Array.toList_range, List.length_map, List.length_range, k7, Nat.zero_add]
  have hrl : RepL { e with w := { e.w with drawn := e.w.drawn + 1 } } (xs.flatten ++ List.replicate ((cap - xs.length) * ti.size) .any) ((([] ++ news).toArray ++ Builtin.zeroCells z.cells (cap - (0 + xs.length)))).toList := by
    rw [Array.toList_append]
    refine RepL.append (by simpa using hnw1) ?_
    rw [← hzl]; exact RepL.anys _
  have hcell : ∀ q ∈ ((([] ++ news).toArray ++ Builtin.zeroCells z.cells (cap - (0 + xs.length)))).toList, isCell q = true := by
    intro q hq
    rw [Array.toList_append] at hq
    rcases List.mem_append.1 hq with h | h
    · exact hsrc.one q (by simpa using h)
    · exact zeroCells_cell k6 _ q h
  have hs2 := hs1.push (push_cells (t := et) hs1.ok hrl hcell)
  refine ⟨about_FW _ _ _ _ _, ?_⟩
  show Oper.uponIn (FW c.r) 0 c.P _ ac next (lift c Q) (((Oper.semAt c.r ac.eval ⟨d, .call ⟨.builtin .append, #[x, y], #[st, xt]⟩, t, p, af, none⟩)).run c.P e.w)
  rw [semAt_of (by intro c h; cases h)]
  have hex : (execOp ac.eval ⟨d, .call ⟨.builtin .append, #[x, y], #[st, xt]⟩, t, p, af, none⟩).run c.P e.w = ((Builtin.append_ #[st, xt] t #[.slice a 0 0, ac.eval y]).run c.P e.w).andThen fun v w'' => .ok (.value v) w'' := by
    simp [execOp, resolve, invoke, builtin, hv1]
  rw [hex, hrun]
  refine hn' _ _ _ (k cap (by omega) hle2) (hs2.put hd ?_)
  rw [Rep]
  refine ⟨?_, ?_, e.w.heap.size, ?_, by simp, by omega⟩
  · simp [Env.push, hs.H]
  · simp [Env.T, Env.push, hs.H, tokOf]
  · simp [Env.push, hs.H]
theorem sq_build {xt et : TypeId} {sz bytes len : Nat} {parts : Array (Nat × Operand)} {es : List (List AV)} (hd : dOK c.nt d = true) (hf : SlFact c.P xt et sz bytes)
    (hes : elemsOf sz (parts.toList.map fun q => s.op q.2) = some es) (hlen : Nat.beq es.length len = true) (hsm : Nat.ble (len * sz) 16777216 = true)
    (hfill : afill (bldPlace false [] sz) (List.replicate (len * sz) .any) (parts.toList.map fun q => (q.1, s.op q.2)) = some es.flatten)
    (k : SeqWP c ops Q (i + 1) rest (St.put { s with H := s.H ++ [.cells es.flatten] } d (.msl s.H.length 0 len len))) :
    SeqWP c ops Q i (⟨d, .buildSlice xt len parts, t, p, af, none⟩ :: rest) s := by
  refine sq_op fun e ac hs next hn' => ?_
  have hs' : ∀ q ∈ parts.toList, Rep e (s.op q.2) (ac.eval q.2) := fun q _ => hs.op q.2
  obtain ⟨ti, z, h1, h2, rfl, rfl, k5, k6, k7⟩ := hf.ex
  have hlen := Nat.eq_of_beq_eq_true hlen
  have hsm := Nat.le_of_ble_eq_true hsm
  have hzr : (zeroValue et).run c.P e.w = .ok z e.w := by simp [zeroValue, run_info h2, k5]
  have hzlen : (Builtin.zeroCells z.cells len).toList.length = len * ti.size := by simp [Builtin.zeroCells, k7]
  obtain ⟨cs', f1, f2, f3⟩ := fill_rep (e := e) (cs := Builtin.zeroCells z.cells len) (place := bldPlace false [] ti.size) (vals := parts.toList.map fun q => (q.1, ac.eval q.2)) (by simp) (parts_get hs')
    (by rw [← hzlen]; exact RepL.anys _) (zeroCells_cell k6 len) hfill
  have hs2 := hs.push (push_cells (t := et) hs.ok f2 f3)
  refine ⟨about_FW _ _ _ _ _, ?_⟩
  show Oper.uponIn (FW c.r) 0 c.P _ ac next (lift c Q) (((Oper.semAt c.r ac.eval ⟨d, .buildSlice xt len parts, t, p, af, none⟩)).run c.P e.w)
  rw [semAt_of (by intro c h; cases h)]
  have hex : (execOp ac.eval ⟨d, .buildSlice xt len parts, t, p, af, none⟩).run c.P e.w = .ok (.value (.slice (some ⟨e.w.heap.size, 0, none⟩) len len)) (e.w.alloc (.cells cs' et)) := by
    have hfun : (fun i => some (i * ti.size, ti.size)) = bldPlace false [] ti.size := by funext i; simp [bldPlace]
    have f1' : Instr.fill (bldPlace false [] ti.size) (Builtin.zeroCells z.cells len) (parts.toList.map fun q => (q.1, ac.eval q.2)) = some cs' := f1
    simp only [execOp, Instr.buildSlice, Sem.run_bind, run_und h1, Result.andThen_ok, run_size h2]
    rw [if_neg (by omega), hfun]
    have hzc : Builtin.zeroCells z.cells len = (Array.range (len * ti.size)).map (fun i => z.cells[i % z.cells.size]!) := by unfold Builtin.zeroCells; rw [k7]
    by_cases h0 : len * ti.size = 0
    · have h00 : Builtin.zeroCells z.cells len = #[] := Array.eq_empty_of_size_eq_zero (by simp [Builtin.zeroCells, k7, h0])
      have hr0 : ∀ f : Nat → Value, (Array.range 0).map f = #[] := fun f => Array.eq_empty_of_size_eq_zero (by simp)
      rw [h00] at f1'
      simp [h0, hr0, f1', newRow]
    · rw [hzc] at f1'
      simp [h0, hzr, f1', newRow]
  rw [hex]
  refine hn' _ _ _ k (hs2.put hd ?_)
  rw [Rep]
  refine ⟨?_, ?_, e.w.heap.size, ?_, by simp, Nat.le_refl _⟩
  · simp [Env.push, hs.H]
  · simp [Env.T, Env.push, hs.H, tokOf]
  · simp [Env.push, hs.H]
end seq
def OwnY (sz : Nat) (A : List AObj) (es : List (List AV)) (a : AV) (H : List AObj) : Prop :=
  (a = .slx sz [] ∧ es = [] ∧ H = A) ∨ ∃ cap, es.length ≤ cap ∧ cap ≤ 9223372036854775807 ∧ 0 < es.length ∧ a = .msl A.length 0 es.length cap ∧ H = A ++ [.cells (es.flatten ++ List.replicate ((cap - es.length) * sz) .any)]
theorem cells_ints : ∀ (l : List Int) {e : Env} {b off : Nat}, ElemsAt e (numE l) b off → ∀ j, j < l.length → e.w.cell? ⟨b, off + j, none⟩ = some (.int .i64 (l.getD j 0)) := fun l e b off h j hj => by
  have h3 := h.get (sz := 1) j [.raw (.int .i64 l[j])] numE_sz (by simp [hj])
  rw [CellsAt] at h3
  obtain ⟨⟨_, u, h4, h5, _⟩, _⟩ := h3
  rw [Rep] at h5; subst h5
  rw [Nat.mul_one] at h4
  rw [h4]; simp [hj]
/-- **A contract over a row of numbers**: what the shelf says, at a row in a block, or at none. -/
theorem apure_of_ints {P : Program} {f : FuncId} {l : List Int} {more : List Value} {u : Value}
    (h0 : l = [] → ∀ a c w, Tabs.is w → Calls P f (.slice a 0 c :: more).toArray w fun x w' => x = .returned u ∧ Still w w' ∧ w.heap.size ≤ w'.heap.size ∧ ∀ b, b < w.heap.size → w'.heap[b]? = w.heap[b]?)
    (h1 : ∀ bk o c w, Tabs.is w → (∀ j, j < l.length → w.cell? ⟨bk, o + j, none⟩ = some (.int .i64 (l.getD j 0))) → l.length ≤ c →
      Calls P f (.slice (some ⟨bk, o, none⟩) l.length c :: more).toArray w fun x w' => x = .returned u ∧ Still w w' ∧ w.heap.size ≤ w'.heap.size ∧ ∀ b, b < w.heap.size → w'.heap[b]? = w.heap[b]?) :
    APure P f (.sl 1 (numE l) :: more.map .raw) (.raw u) := by
  intro e us ok hs
  rw [RepL] at hs
  obtain ⟨v, rest, hus, hv, hr⟩ := hs
  have hr' : rest = more := repL_raws_eq hr
  subst hr'
  have hus' : us = (v :: rest).toArray := Array.ext' (by simpa using hus)
  subst hus'
  rw [Rep] at hv
  obtain ⟨a, len, cap, rfl, hlen, hle, hn, _, hel⟩ := hv
  simp only [List.length_map] at hlen
  subst hlen
  have hcall : Calls P f (.slice a l.length cap :: rest).toArray e.w fun x w' => x = .returned u ∧ Still e.w w' ∧ e.w.heap.size ≤ w'.heap.size ∧ ∀ b, b < e.w.heap.size → w'.heap[b]? = e.w.heap[b]? := by
    cases l with
    | nil => exact h0 rfl a cap e.w ok.tabs.1
    | cons r l =>
      cases a with
      | none => have := hn rfl; simp at hle; omega
      | some ad =>
        obtain ⟨bk, o, sp⟩ := ad
        obtain ⟨hsp, he⟩ := hel _ rfl
        have hsp := hsp (by simp at hle; omega); simp only at hsp; subst hsp
        exact h1 bk o cap e.w ok.tabs.1 (cells_ints (r :: l) he) hle
  have h1 := (callsIn_wide (n := 0)).2 hcall
  refine CallsIn.mono (F := FW none) (n := 0) h1 ?_
  rintro x w' ⟨rfl, hst, hsz, hw⟩
  exact ⟨u, { e with w := w' }, rfl, rfl, ⟨rfl, fun _ _ => rfl, hsz, hst, hw, fun _ _ => rfl, fun b hb => ok.fresh b (Nat.le_trans hsz hb)⟩, by rw [Rep]⟩
theorem less_tuple {vs : List Value} : Less (.raw (.tuple vs.toArray)) (.tup (vs.map .raw)) := fun e v h => by
  rw [Rep] at h
  rw [Rep]
  subst h
  exact ⟨vs.toArray, rfl, RepL.raws vs⟩
end Go.Ab
namespace Go.Ab
section
variable [Tabs]
theorem less_mslp {i o n c : Nat} : Less (.msl i o n c) (.mslp i o n) := by
  intro e v h
  have h : Rep e (.msl i o n c) v := h
  show Rep e (.mslp i o n) v
  rw [Rep] at h
  obtain ⟨h1, h2, b, h3, h4, h5⟩ := h
  rw [Rep]
  exact ⟨h1, h2, b, c, h3, h4, h5⟩
theorem repL_pad {e : Env} : ∀ {L R : List AV} {vs : List Value}, RepL e (L ++ R) vs → RepL e (L ++ List.replicate R.length .any) vs
  | [], R, vs, h => by
    have h1 := h.length
    have h2 := RepL.anys (e := e) vs
    rw [h1] at h2; simpa using h2
  | a :: L, R, vs, h => by
    rw [List.cons_append, RepL] at h
    obtain ⟨v, rest, rfl, h2, h3⟩ := h
    exact RepL.cons h2 (repL_pad h3)
variable {c : Ctx} {Q : AExit → St → Prop} {s : St}
inductive WkO : AObj → AObj → Prop
  | same (o : AObj) : WkO o o
  | dead (l : List AV) : WkO (.cells l) .dead
  | pre (L R : List AV) : WkO (.cells (L ++ R)) (.pre L)
inductive WkL : List AObj → List AObj → Prop
  | nil : WkL [] []
  | cons {o o' : AObj} {l l' : List AObj} (h : WkO o o') (k : WkL l l') : WkL (o :: l) (o' :: l')
theorem wkl_app : ∀ (H : List AObj) {X Y : List AObj}, WkL X Y → WkL (H ++ X) (H ++ Y)
  | [], _, _, h => h
  | o :: H, _, _, h => .cons (.same o) (wkl_app H h)
theorem wkl_get : ∀ {X Y : List AObj}, WkL X Y → Y.length = X.length ∧ ∀ (i : Nat) o', Y[i]? = some o' → ∃ o, X[i]? = some o ∧ WkO o o'
  | _, _, .nil => ⟨rfl, fun i o' h => by simp at h⟩
  | _, _, .cons h k => by
    obtain ⟨k1, k2⟩ := wkl_get k
    refine ⟨by simp [k1], fun i o' hi => ?_⟩
    cases i with
    | zero => simp only [List.getElem?_cons_zero, Option.some.injEq] at hi; subst hi; exact ⟨_, rfl, h⟩
    | succ i => exact k2 i o' (by simpa using hi)
theorem wkl_tok {X Y : List AObj} (h : WkL X Y) (i : Nat) : tokOf (Y[i]?) = tokOf (X[i]?) := by
  obtain ⟨h1, h2⟩ := wkl_get h
  cases hy : Y[i]? with
  | none => rw [List.getElem?_eq_none_iff] at hy; rw [List.getElem?_eq_none (by omega)]
  | some o' =>
    obtain ⟨o, ho, hw⟩ := h2 i o' hy
    rw [ho]
    cases hw <;> rfl
theorem wkl_sim {e e' : Env} {H' : List AObj} (h : WkL e.H H') (ok : EnvOK e) (he : e' = { e with H := H' }) (le : e.Le e') (i : Nat) (o : AObj) (hi : H'[i]? = some o) : ObjSim e' i o := by
  obtain ⟨o1, h1, hw⟩ := (wkl_get h).2 i o hi
  have hk := ok.objs i o1 h1
  have hm : ∀ o, ObjSim e i o → ObjSim e' i o := fun o k => ObjSim.mono le k (by rw [he]) fun b _ => by rw [he]; exact ⟨rfl, rfl⟩
  cases hw with
  | same => exact hm _ hk
  | dead => trivial
  | pre L R =>
    obtain ⟨b, cs, t, k1, k2, k3, k4, k5⟩ := hm _ hk
    exact ⟨b, cs, t, R.length, k1, k2, k3, repL_pad k4, k5⟩
theorem acall_wk {P : Program} {f : FuncId} {args : List AV} {H : List AObj} {R R' : ARes → List AObj → Prop} (h : ACall P f args H R) (k : ∀ x H1, R x H1 → ∃ v v' H2, x = .ret v ∧ Less v v' ∧ WkL H1 H2 ∧ R' (.ret v') H2) : ACall P f args H R' := by
  intro e vs ok hH hs
  refine (h e vs ok hH hs).mono ?_
  rintro x w' ⟨ax, e', rfl, ok', fr, hR, hend⟩
  obtain ⟨v, v', H2, rfl, hl, hw, hR'⟩ := k _ _ hR
  obtain ⟨le, ok2, fr2⟩ := env_reH ok' fr (wkl_get hw).1 (wkl_tok hw) fun e2 he2 le i o hi => wkl_sim hw ok' he2 le i o hi
  obtain ⟨u, rfl, hu⟩ := hend
  exact ⟨.ret v', { e' with H := H2 }, rfl, ok2, fr2, hR', u, rfl, hl _ _ (Rep.mono le _ hu)⟩
end
section
variable [Tabs] {c : Ctx} {Q : AExit → St → Prop} {H : List AObj} {df : List ADef} {ρ : Operand → AV} {d : Option Tmp} {t : TypeId} {p : String} {af : Array Edge}
theorem eff_call {x : Operand} {ys : Array Operand} {ats : Array TypeId} {f : FuncId} {first cap args : List AV} {v : AV} {H' : List AObj} (hd : dOK c.nt d = true) (he : Ent c.P f) (hx : Less (ρ x) (.fn (.func f) first cap))
    (ha : LessL (first ++ ys.toList.map ρ ++ cap) args) (hc : ACall c.P f args H fun y H1 => y = .ret v ∧ H1 = H') : Eff c Q ⟨d, .call ⟨.value x, ys, ats⟩, t, p, af, none⟩ H df ρ v H' :=
  eff_of rfl fun s hH hop Q k => by
    subst hH
    have hm : ys.toList.map s.op = ys.toList.map ρ := List.map_congr_left fun y hy => hop y (by simp [Op.operands, Call.operands]; right; simpa using hy)
    exact sq_call hd he (by rw [hop x (by simp [Op.operands, Call.operands])]; exact hx) (by rw [hm]; exact ha) hc (by rintro _ _ ⟨h, rfl⟩; cases h; exact k) (by rintro _ _ ⟨h, _⟩; cases h)
end
section
variable [Tabs] {c : Ctx} {Q : AExit → St → Prop} {s : St}
end
section more
variable [Tabs]
theorem acall_push {P : Program} {f : FuncId} {args : List AV} {H : List AObj} {v : AV} (h : ACall P f args H fun y H' => y = .ret v ∧ H' = H) : ACall P f args H fun y H' => y = .ret v ∧ H' = H ++ [.tok 0] := by
  intro e vs ok hH hs
  refine (h e vs ok hH hs).mono ?_
  rintro x w' ⟨ax, e', rfl, ok', fr, ⟨rfl, hH'⟩, u, rfl, hu⟩
  have sim1 : Sim ⟨P, none, 0, e⟩ ⟨[], H, []⟩ e' { tmps := #[], defers := [] } := ⟨rfl, fun t => by rw [show sget [] t = .any from rfl, Rep]; trivial, DRepL.nil, hH', ok', fr⟩
  obtain ⟨e2, k1, _, k3, k4, _, k5⟩ := sim_tok sim1 0
  exact ⟨.ret v, e2, by rw [k1], k5.ok, k5.fr, ⟨rfl, k4⟩, u, rfl, Rep.mono k3 _ hu⟩
theorem acall_of_pure {P : Program} {f : FuncId} {args : List AV} {v : AV} {H : List AObj} (h : APure P f args v) : ACall P f args H fun y H' => y = .ret v ∧ H' = H := by
  intro e vs ok hH hs
  refine (h e vs ok hs).mono ?_
  rintro x w' ⟨u, e', rfl, rfl, hx, hu⟩
  have sim1 : Sim ⟨P, none, 0, e⟩ ⟨[], H, []⟩ e { tmps := #[], defers := [] } := ⟨rfl, fun t => by rw [show sget [] t = .any from rfl, Rep]; trivial, DRepL.nil, hH, ok, Fr.refl _⟩
  have sim2 := sim1.ext hx
  exact ⟨.ret v, e', rfl, sim2.ok, sim2.fr, ⟨rfl, by rw [hx.H]; exact hH⟩, u, rfl, hu⟩
variable {c : Ctx} {Q : AExit → St → Prop} {s : St}
theorem acall_open {P : Program} {f : FuncId} {k len : Nat} {L : List AV} {args : List AV} {H : List AObj} {R : ARes → List AObj → Prop} (hk : H[k]? = some (.pre L))
    (h : ∀ cap m, len ≤ cap → ACall P f (.msl k 0 len cap :: args) (H.set k (.cells (L ++ List.replicate m .any))) R) : ACall P f (.mslp k 0 len :: args) H R := by
  intro e vs ok hH hs
  have hkl := lt_of_get? hk
  obtain ⟨b, cs, ct, m, k1, k2, k3, k4, k5⟩ := ok.objs k _ (by rw [hH]; exact hk)
  rw [RepL] at hs
  obtain ⟨v, r, hv, hr, hrest⟩ := hs
  rw [Rep] at hr
  obtain ⟨r1, r2, b', cap, r3, rfl, r5⟩ := hr
  obtain ⟨le, ok2, fr2⟩ := env_reH ok (Fr.refl e) (H' := H.set k (.cells (L ++ List.replicate m .any))) (by rw [hH]; simp) (fun i => by
      rw [hH]
      by_cases h2 : k = i
      · subst h2; rw [List.getElem?_set_self hkl, hk]; rfl
      · rw [List.getElem?_set_ne h2]) fun e' he' le i o hi => by
    by_cases h2 : k = i
    · subst h2
      rw [List.getElem?_set_self hkl] at hi
      cases hi
      exact ⟨b, cs, ct, by rw [he']; exact k1, by rw [he']; exact k2, by rw [he']; exact k3, RepL.mono le _ k4, k5⟩
    · rw [List.getElem?_set_ne h2] at hi
      exact ObjSim.mono le (ok.objs i o (by rw [hH]; exact hi)) (by rw [he']) fun b _ => by rw [he']; exact ⟨rfl, rfl⟩
  have hrow : Rep { e with H := H.set k (.cells (L ++ List.replicate m .any)) } (.msl k 0 len cap) (.slice (some ⟨b', 0, none⟩) len cap) := by
    have h3 := le.obj k r1 r2
    rw [Rep]
    exact ⟨Nat.lt_of_lt_of_le r1 le.len, h3.1, b', h3.2 _ r3, rfl, r5⟩
  refine (h cap m r5 _ vs ok2 rfl (by rw [RepL]; exact ⟨_, r, hv, hrow, RepL.mono le _ hrest⟩)).mono ?_
  rintro x w' ⟨ax, e', hw, ok', fr, hR, hend⟩
  exact ⟨ax, e', hw, ok', fr2.trans fr, hR, hend⟩
theorem acall_freeze {P : Program} {f : FuncId} {k sz : Nat} {es : List (List AV)} {args : List AV} {H H0 : List AObj} (hk : k < H0.length) (hsz : ∀ q ∈ es, q.length = sz)
    (h : ACall P f args H fun y H' => ∃ cap rs, y = .ret (.msl k 0 es.length cap) ∧ H' = H0.set k (.cells (es.flatten ++ rs))) : ACall P f args H fun y H' => y = .ret (.sl sz es) ∧ H' = H0.set k .dead := by
  intro e vs ok hH hs
  refine (h e vs ok hH hs).mono ?_
  rintro x w' ⟨ax, e', rfl, ok', fr, ⟨cap, rs, rfl, hH'⟩, u, rfl, hu⟩
  have sim1 : Sim ⟨P, none, 1, e⟩ ⟨[(0, .msl k 0 es.length cap)], H0.set k (.cells (es.flatten ++ rs)), []⟩ e' { tmps := #[u], defers := [] } := ⟨rfl, fun t => by
    cases t with
    | zero => exact hu
    | succ t => rw [show sget [(0, AV.msl k 0 es.length cap)] (t + 1) = .any from rfl, Rep]; trivial, DRepL.nil, hH', ok', fr⟩
  obtain ⟨e2, hw, sim2⟩ := sub_freezeK (c := ⟨P, none, 1, e⟩) (s := ⟨[(0, .msl k 0 es.length cap)], H0.set k (.cells (es.flatten ++ rs)), []⟩) [] 0 (j := k) (n := es.length) (cap := cap) (sz := sz) (es := es) (rest := rs) rfl (by show (H0.set k _)[k]? = _; rw [List.getElem?_set_self hk]) rfl hsz e' _ sim1
  refine ⟨.ret (.sl sz es), e2, hw, sim2.ok, sim2.fr, ⟨rfl, by rw [sim2.H]; exact List.set_set ..⟩, u, rfl, sim2.slots 0⟩
section ev
variable {P : Program} {r : Option Nat} {H : List AObj} {ρ : Operand → AV} {d : Option Tmp} {t : TypeId} {p : String} {af : Array Edge} {g : Option (Nat × Bool)}
end ev
end more
end Go.Ab
namespace Go.Ab
variable [Tabs]
section main
variable {c : Ctx} {Q : AExit → St → Prop} {Hc : List AObj} {ops : Array Oper} {fs es : List Nat} {b : Array Nat} {as : List Act4} {s sf : St}
theorem any_drawc {Q : AExit → St → Prop} {l : List Oper} (fs es : List Nat) (Hc : List AObj) {s : St} (hok : drawOKc l.toArray fs es = true) (hHc : HSub Hc s.H) (h : DC c Hc l.toArray fs es Q 0 l s) {e : Env} {a : Act} (hs : Sim c s e a) :
    wpAnyIn (FW c.r) 0 c.P .any l.toArray (lift c Q) l.toArray.size (Array.replicate l.toArray.size false) a { e.w with drawn := e.w.drawn + 1 } := by
  obtain ⟨as, sf, hlen, hval, hQ⟩ := h (Nat.zero_le _) (by simp)
  generalize l.toArray = ops at *
  have hlen : as.length = ops.size := by omega
  have hc := chkC_of hok
  have hT : Tx c Q Hc ops fs es s sf as := ⟨hlen, by rw [dv_fin as 0 s sf hval, hlen], fun k x hk => by have := dv_at as 0 s sf hval k x hk; simpa only [Nat.zero_add] using this⟩
  obtain ⟨kf, hk1, hk2⟩ : ∃ kf, (∀ (j : Nat) (v : AV) (H' : List AObj), j < kf → as[j]? ≠ some (Act4.eff v H')) ∧ (∀ (j : Nat) (l : AObj × AV) (id : Nat), kf ≤ j → as[j]? ≠ some (Act4.fresh l id)) := by
    by_cases hex : ∃ i : Nat, ∃ (v : AV) (H' : List AObj), as[i]? = some (Act4.eff v H')
    · obtain ⟨i, ⟨v, H', hi⟩, hmin⟩ := least_of hex
      refine ⟨i, fun j v H' hj hh => hmin j hj ⟨v, H', hh⟩, fun j l id hj hh => ?_⟩
      obtain ⟨_, _, _, _, he, _⟩ := hT.at_ i _ hi
      obtain ⟨_, _, _, _, hf, _⟩ := hT.at_ j _ hh
      have := (hc.ef i j he hf).1
      omega
    · exact ⟨as.length, fun j v H' _ hh => hex ⟨j, v, H', hh⟩, fun j l id hj hh => by rw [List.getElem?_eq_none hj] at hh; cases hh⟩
  obtain ⟨e1, hw1, hp1⟩ := pc_start (Hc := Hc) hT hk1 hk2 hs ops.size
  rw [← hw1]
  have fin : ∀ (listed : Array Bool) (e : Env) (a : Act), (∀ j, j < ops.size → isIn listed j = true) → PC c Hc ops as s sf kf listed e a → lift c Q .normal a e.w := by
    intro listed e a hall hp
    have hsl : ∀ t, sget sf.sl t = sget (slL sf s ops listed) t := fun t => by
      by_cases hex : ∃ j, j < ops.size ∧ dstOf ops j = some t
      · obtain ⟨j, h1, h2⟩ := hex
        rw [slL_in h1 (hall j h1) h2]
      · rw [slL_out (fun j h1 _ h2 => hex ⟨j, h1, h2⟩), hT.fin]
        have := stA_between (ops := ops) (as := as) (s := s) (k := 0) (t := t) ops.size (fun j _ h1 h2 => hex ⟨j, by omega, h2⟩)
        rw [Nat.zero_add, stA_zero] at this
        exact this
    have hH : sf.H = e.H := by
      have hf : sf.H = (stA ops as s ops.size).H := by rw [hT.fin]; rfl
      rw [hf]
      rcases hp.ph with ⟨k, g1, g2, g3, g4, g5⟩ | ⟨g1, g2, g3, g4⟩
      · rw [g1]
        have hcase : ∀ d, (stA ops as s (k + d)).H = (stA ops as s k).H := fun d => stA_same d (fun j y q1 q2 q3 q4 => by
          have h1 := g5 j y q1 q3 q4
          rw [hall j (by have := lt_of_get? q3; omega)] at h1; cases h1)
        rcases Nat.lt_or_ge k ops.size with hki | hki
        · have := hcase (ops.size - k)
          rwa [show k + (ops.size - k) = ops.size by omega] at this
        · have hover : ∀ d, (stA ops as s (ops.size + d)).H = (stA ops as s ops.size).H := fun d => stA_same d (fun j y q1 q2 q3 q4 => by have := lt_of_get? q3; omega)
          have := hover (k - ops.size)
          rw [show ops.size + (k - ops.size) = k by omega] at this
          exact this.symm
      · have hno : ∀ (j : Nat) (v : AV) (H' : List AObj), as[j]? ≠ some (Act4.eff v H') := fun j v H' hh => by
          have := g1 j v H' hh
          rw [hall j (by have := lt_of_get? hh; omega)] at this; cases this
        rcases Nat.lt_or_ge ops.size kf with hq | hq
        · have := all_fresh (e := e) hT (kf := kf) (i := kf) hk1 hk2 (fun j v H' _ => hno j v H') (Nat.le_refl _) g2 g3 (fun k l id hk => (g4 k l id hk).1 (hall k (by have := lt_of_get? hk; omega)))
          rw [this]
          have hover : ∀ d, (stA ops as s (ops.size + d)).H = (stA ops as s ops.size).H := fun d => stA_same d (fun j y q1 q2 q3 q4 => by have := lt_of_get? q3; omega)
          have := hover (kf - ops.size)
          rw [show ops.size + (kf - ops.size) = kf by omega] at this
          exact this.symm
        · exact (all_fresh (e := e) hT hk1 hk2 (fun j v H' _ => hno j v H') hq g2 g3 (fun k l id hk => (g4 k l id hk).1 (hall k (by have := lt_of_get? hk; omega)))).symm
    refine ⟨.normal, sf, e, hQ, rfl, hp.sim.congr hsl hH ?_, rfl⟩
    rw [hT.fin]; exact stA_df ops as s ops.size
  have key : ∀ (fuel : Nat) (listed : Array Bool) (e : Env) (a : Act), left listed ops.size ≤ fuel → listed.size = ops.size → Closed ops (Region.before ops) listed → PC c Hc ops as s sf kf listed e a →
      wpAnyIn (FW c.r) 0 c.P .any ops (lift c Q) fuel listed a e.w := by
    intro fuel
    have hready : ∀ (listed : Array Bool), listed.size = ops.size → Region.ready .any ops listed = [] → ∀ j, j < ops.size → isIn listed j = true := by
      intro listed hsz hnone j
      induction j using Nat.strongRecOn with
      | _ n ihn =>
        intro hn
        cases hb : isIn listed n with
        | true => rfl
        | false =>
          have : n ∈ Region.ready .any ops listed := (mem_ready' hsz).2 ⟨hn, hb, fun o ho ed he hbd => by
            have := hc.edges n o ho ed he hbd
            exact ihn ed.on this (by omega)⟩
          rw [hnone] at this; cases this
    induction fuel with
    | zero =>
      intro listed e a hf hsz hcl hp
      have hall := left_zero (listed := listed) ops.size (by omega)
      refine ⟨?_, fin listed e a hall hp⟩
      apply List.eq_nil_iff_forall_not_mem.2
      intro i hi
      obtain ⟨h1, h2, _⟩ := (mem_ready' hsz).1 hi
      rw [hall i h1] at h2; cases h2
    | succ fuel ih =>
      intro listed e a hf hsz hcl hp
      refine ⟨fun hnone => fin listed e a (hready listed hsz hnone) hp, fun i hi => ?_⟩
      obtain ⟨hin, hif, _⟩ := (mem_ready' hsz).1 hi
      refine pc_step hT hc rfl hHc hk1 hk2 hsz hcl hi hp (fun e' a' hp' => ih _ e' a' ?_ (by simpa using hsz) (closedC hc hsz hcl hi) hp')
      have := left_set (by omega) hif ops.size hin; omega
  refine key ops.size (Array.replicate ops.size false) e1 a ?_ (by simp) (fun j k _ _ h => ?_) hp1
  · rw [left_init ops.size ops.size (Nat.le_refl _)]; exact Nat.le_refl _
  · unfold isIn at h; rw [Array.getD_eq_getD_getElem?, Array.getElem?_replicate] at h; split at h <;> cases h
end main
theorem lst_iff {lb ls : Array Bool} {m n : Nat} (h3 : ∀ j, j < m → isIn lb j = isIn ls j) (h4 : ∀ j, m ≤ j → isIn lb j = false) (hall : ∀ j, j < m → isIn ls j = true) : ∀ j, j < n → (isIn lb j = true ↔ j < m) := by
  intro j _
  constructor
  · intro q
    rcases Nat.lt_or_ge j m with k | k
    · exact k
    · rw [h4 j k] at q; cases q
  · intro q; rw [h3 j q]; exact hall j q
theorem any_split {F : Fence} {n : Nat} {P : Program} {big small : Array Oper} {b : Array Nat} {m : Nat} (hc : Checked big b m) (hs : small.size = m) (hsm : ∀ i, i < m → small[i]? = big[i]?) (hg : ∀ (i : Nat) o, i < m → big[i]? = some o → o.guard = none)
    {Q Q1 : Exit → Act → World → Prop} (hq : ∀ a w, Q1 .normal a w → wpOpsIn F n P big Q (List.range' m (big.size - m)) a w) (hq2 : ∀ x a w, x ≠ .normal → Q1 x a w → Q x a w) :
    ∀ (fs fb : Nat) (ls lb : Array Bool) (a : Act) (w : World), ls.size = m → lb.size = big.size → (∀ j, j < m → isIn lb j = isIn ls j) → (∀ j, m ≤ j → isIn lb j = false) → Closed big b lb → left lb big.size ≤ fb → left ls m ≤ fs →
      wpAnyIn F n P .any small Q1 fs ls a w → wpAnyIn F n P .any big Q fb lb a w := by
  intro fs
  induction fs with
  | zero =>
    intro fb ls lb a w h1 h2 h3 h4 hcl hf hfs h
    have hall := left_zero (listed := ls) m (by omega)
    have hmn := hc.le
    exact tail_forced hc (big.size - m) m fb lb a w (by omega) (Nat.le_refl _) h2 hcl (lst_iff h3 h4 hall) hf (hq a w h.2)
  | succ fs ih =>
    intro fb ls lb a w h1 h2 h3 h4 hcl hf hfs h
    have hmn := hc.le
    by_cases hall : ∀ j, j < m → isIn ls j = true
    · have hnone : Region.ready .any small ls = [] := by
        apply List.eq_nil_iff_forall_not_mem.2
        intro i hi
        obtain ⟨g1, g2, _⟩ := (mem_ready' (by rw [h1, hs])).1 hi
        rw [hall i (by omega)] at g2; cases g2
      exact tail_forced hc (big.size - m) m fb lb a w (by omega) (Nat.le_refl _) h2 hcl (lst_iff h3 h4 hall) hf (hq a w (h.1 hnone))
    · obtain ⟨j0, hj0, hjm⟩ : ∃ j, (j < m ∧ isIn ls j = false) ∧ ∀ k, k < j → isIn ls k = true := by
        have hex : ∃ j, j < m ∧ isIn ls j = false := by
          apply Classical.byContradiction
          intro hn
          exact hall fun j hj => by
            cases hb : isIn ls j with
            | true => rfl
            | false => exact absurd ⟨j, hj, hb⟩ hn
        obtain ⟨j, hj, hmin⟩ := least_of hex
        exact ⟨j, hj, fun k hk => by
          cases hb : isIn ls k with
          | true => rfl
          | false => exact absurd ⟨by omega, hb⟩ (hmin k hk)⟩
      have hbig0 : isIn lb j0 = false := by rw [h3 j0 hj0.1]; exact hj0.2
      have hr0 : j0 ∈ Region.ready .any big lb := (mem_ready' h2).2 ⟨by omega, hbig0, fun o ho ed he hbd => by
        have := hc.edges j0 o ho ed he hbd
        rw [h3 ed.on (by omega)]; exact hjm ed.on this⟩
      cases fb with
      | zero =>
        have := left_zero (listed := lb) big.size (by omega) j0 (by omega)
        rw [hbig0] at this; cases this
      | succ fb =>
        refine ⟨fun hn => (by rw [hn] at hr0; cases hr0), fun i hi => ?_⟩
        obtain ⟨g1, g2, g3⟩ := (mem_ready' h2).1 hi
        have him : i < m := by
          rcases Nat.lt_or_ge i m with k | k
          · exact k
          · have := ready_before hc h2 hcl hi (show j0 < big.size by omega) (hc.tail i j0 g1 k (by omega))
            rw [hbig0] at this; cases this
        have hio : isIn ls i = false := by rw [← h3 i him]; exact g2
        have his : i ∈ Region.ready .any small ls := (mem_ready' (by rw [h1, hs])).2 ⟨by omega, hio, fun o ho ed he hbd => by
          have ho' : big[i]? = some o := by rw [← hsm i him]; exact ho
          have := hc.edges i o ho' ed he hbd
          rw [← h3 ed.on (by omega)]; exact g3 o ho' ed he hbd⟩
        have hw := h.2 i his
        obtain ⟨o, ho⟩ : ∃ o, big[i]? = some o := ⟨big[i], by simp [g1]⟩
        have hgo := hg i o him ho
        have hwant : ∀ y : Nat → Option Bool, Region.wanted o y = true := fun y => by unfold Region.wanted; rw [hgo]
        unfold wpOpIn at hw ⊢
        rw [hsm i him] at hw
        simp only [ho, hwant, if_true] at hw ⊢
        refine Oper.wpIn_monoQ hq2 (Oper.wpIn_mono (fun a' w' h' => ?_) hw)
        have hls := left_set (by omega) hio m him
        have hlb := left_set (listed := lb) (i := i) (by omega) g2 big.size g1
        refine ih fb (ls.setIfInBounds i true) (lb.setIfInBounds i true) a' w' (by simpa using h1) (by simpa using h2) (fun j hj => ?_) (fun j hj => ?_) (closed_set hc h2 hcl hi) (by omega) (by omega) h'
        · rw [isIn_set (by omega), isIn_set (by omega), h3 j hj]
        · rw [isIn_set (by omega), h4 j hj, Bool.false_or]; simp; omega
/-- **A region whose first m operations come in an order of their own**, and change objects; the rest come behind, in the order of the text. -/
theorem aw_drawcm {c : Ctx} {id : Nat} {Q : AExit → St → Prop} {l l1 l2 : List Oper} (m : Nat) (fs es : List Nat) (Hc : List AObj) {s : St} (hm : c.P.follows .mixedOrders = true) (hl1 : l.take m = l1) (hl2 : l.drop m = l2) (hok : drawOK l.toArray m = true) (hg : l1.all (fun o => o.guard.isNone) = true) (hok2 : drawOKc l1.toArray fs es = true) (hHc : HSub Hc s.H)
    (h : DC c Hc l1.toArray fs es (fun ax s' => (ax = .normal → SeqWP c l.toArray Q m l2 s') ∧ (ax ≠ .normal → Q ax s')) 0 l1 s) : AWP c (.region id l.toArray true) Q s := by
  intro e a hs
  refine wpIn_region_any hm ?_
  have hc := checked_of hok
  have hml : m ≤ l.length := by have := hc.le; simpa using this
  have hsz : l1.toArray.size = m := by subst hl1; simp; omega
  have h0 := any_drawc fs es Hc hok2 hHc h hs
  have hno : ∀ (k j : Nat), isIn (Array.replicate k false) j = false := fun k j => by
    unfold isIn; rw [Array.getD_eq_getD_getElem?, Array.getElem?_replicate]; split <;> rfl
  refine any_split (small := l1.toArray) hc hsz (fun i hi => ?_) (fun i o hi ho => ?_) (fun a w hq => ?_) (fun x a w hx hq => ?_) _ _ (Array.replicate l1.toArray.size false) (Array.replicate l.toArray.size false) a _ (by simpa using hsz) (by simp) (fun j _ => by rw [hno, hno]) (fun j _ => hno _ j) (fun j k _ _ hj => by rw [hno] at hj; cases hj) (by rw [left_init _ _ (Nat.le_refl _)]; exact Nat.le_refl _) ?_ h0
  · subst hl1; simp [List.getElem?_take_of_lt hi]
  · have hmem : o ∈ l1 := by
      subst hl1
      have : (l.take m)[i]? = some o := by rw [List.getElem?_take_of_lt hi]; simpa using ho
      exact List.mem_of_getElem? this
    have := List.all_eq_true.1 hg o hmem
    simpa using this
  · obtain ⟨ax, s', e', ⟨h1, h2⟩, rfl, hs', hx⟩ := hq
    by_cases hax : ax = .normal
    · subst hax
      have hwp := h1 rfl (by simpa using hl2) e' a hs'
      have hl : l2.length = l.toArray.size - m := by subst hl2; simp
      rw [hl] at hwp
      exact hwp
    · cases ax with
      | normal => exact absurd rfl hax
      | exit id => cases hx
      | goto l => cases hx
      | ret => cases hx
      | panic v => obtain ⟨u, hu, _⟩ := hx; cases hu
  · obtain ⟨ax, s', e', ⟨h1, h2⟩, rfl, hs', hx'⟩ := hq
    refine ⟨ax, s', e', h2 (fun e1 => ?_), rfl, hs', hx'⟩
    subst e1
    exact hx hx'
  · rw [hsz, left_init _ _ (by omega)]; exact Nat.le_refl _
end Go.Ab
namespace Go.Ab
variable [Tabs]
theorem lend_env {args args' : List AV} {j n c sz : Nat} {es : List (List AV)} {rest : List AV} {H : List AObj} {e : Env} {vs : Array Value} {P : Program} (ok : EnvOK e) (hH : e.H = H) (hargs : RepL e args' vs.toList) (hlend : FzL j n c sz es args' args)
    (hj : H[j]? = some (.cells (es.flatten ++ rest))) (hn : es.length = n) (hsz : ∀ q ∈ es, q.length = sz) :
    ∃ e1 : Env, e1.w = e.w ∧ EnvOK e1 ∧ RepL e1 args vs.toList ∧ ∀ e2, Ext e1 e2 → ∃ e' : Env, e'.w = e2.w ∧ Ext e e' ∧ ∀ (r : AV) u, r.flat = true → Rep e2 r u → Rep e' r u := by
  have hlen := hargs.length
  have hje : e.H[j]? = some (.cells (es.flatten ++ rest)) := by rw [hH]; exact hj
  have hjl := lt_of_get? hje
  have hsim : Sim ⟨P, none, vs.size, e⟩ ⟨slotsOf 0 args', e.H, []⟩ e { tmps := vs, defers := [] } := by
    refine ⟨rfl, fun t => ?_, DRepL.nil, rfl, ok, Fr.refl e⟩
    rw [get_slotsOf]
    simp only [Nat.zero_le, if_true, Nat.sub_zero]
    cases hat : args'[t]? with
    | none => simp only [Option.getD_none]; rw [Rep]; trivial
    | some q =>
      obtain ⟨u, k1, k2⟩ := hargs.get t q hat
      have : vs.getD t undef = u := by
        rw [Array.getD_eq_getD_getElem?]
        have : vs[t]? = some u := by simpa using k1
        rw [this]; rfl
      rw [this]; exact k2
  have hal : ∀ {l' l : List AV}, FzL j n c sz es l' l → l'.length = l.length := by
    intro l' l h; induction h with
    | nil => rfl
    | cons _ _ ih => simp [ih]
  obtain ⟨e1, hw1, hs1⟩ := sub_freeze (c := ⟨P, none, vs.size, e⟩) (s := ⟨slotsOf 0 args', e.H, []⟩) (j := j) (n := n) (cap := c) (sz := sz) (es := es) (rest := rest) (sl' := slotsOf 0 args) (H' := e.H.set j .dead) hje hn hsz (slotsOf_fz 0 hlend)
    (by
      have rst : ∀ (H : List AObj) (m : Nat), j < m → FzH j n c sz es m H H := by
        intro H
        induction H with
        | nil => exact fun m _ => FzH.nil m
        | cons o H ih => exact fun m hm => FzH.same o (by omega) (ih (m + 1) (by omega))
      have key : ∀ (H : List AObj) (m q : Nat), j = m + q → FzH j n c sz es m H (H.set q .dead) := by
        intro H
        induction H with
        | nil => exact fun m q _ => FzH.nil m
        | cons o H ih =>
          intro m q hq
          cases q with
          | zero => exact FzH.dead o (by omega) (rst H (m + 1) (by omega))
          | succ q => exact FzH.same o (by omega) (ih (m + 1) q (by omega))
      exact key e.H 0 j (by omega)) e { tmps := vs, defers := [] } hsim
  have hargs1 : RepL e1 args vs.toList := by
    have hl2 := hal hlend
    have key : ∀ (l : List AV) (k : Nat) (us : List Value), us.length = l.length → (∀ t, t < l.length → Rep e1 (sget (slotsOf k l) (k + t)) (us.getD t undef)) → RepL e1 l us := by
      intro l
      induction l with
      | nil => intro k us h _; rw [RepL]; exact List.length_eq_zero_iff.1 h
      | cons q l ih =>
        intro k us h hh
        cases us with
        | nil => simp at h
        | cons u us =>
          refine RepL.cons ?_ (ih (k + 1) us (by simpa using h) fun t ht => ?_)
          · have := hh 0 (by simp)
            simpa [slotsOf, sget] using this
          · have := hh (t + 1) (by simpa using ht)
            simp only [slotsOf, sget] at this
            have hne : (k == k + (t + 1)) = false := by simp
            rw [hne] at this
            rw [show k + 1 + t = k + (t + 1) by omega]
            simpa using this
    refine key args 0 vs.toList (by simpa using hlen.trans hl2) fun t ht => ?_
    have := hs1.slots t
    rw [Nat.zero_add]
    have e2 : vs.toList.getD t undef = vs.getD t undef := by rw [List.getD_eq_getElem?_getD, Array.getD_eq_getD_getElem?, Array.getElem?_toList]
    rw [e2]; exact this
  refine ⟨e1, hw1, hs1.ok, hargs1, fun e2 hxt => ?_⟩
  have hsz2 : e.w.heap.size ≤ e2.w.heap.size := by have := hxt.size; rw [hw1] at this; exact this
  refine ⟨{ H := e.H, μ := e.μ, G := fun b => if b < e.w.heap.size then e.G b else e2.G b, w := e2.w }, rfl, ⟨rfl, fun _ _ => rfl, hsz2, hw1 ▸ hxt.still, fun b hb => ?_, fun b hb => by simp [hb], fun b hb => ?_⟩, fun r u hr hu => rep_flat hr hu⟩
  · have := hxt.heap b (by rw [hw1]; exact hb)
    rw [hw1] at this; exact this
  · have : ¬ b < e.w.heap.size := by simp only at hb; omega
    simp only [this, if_false]; exact hxt.fresh b hb
section seq
variable {c : Ctx} {ops : Array Oper} {Q : AExit → St → Prop} {rest : List Oper} {s : St} {i : Nat}
theorem sq_lend2 {d1 d2 : Nat} {t1 t2 : TypeId} {p1 p2 : String} {af1 af2 : Array Edge} {x1 x2 : Operand} {as : Array Operand} {ats1 ats2 : Array TypeId} {f1 f2 : FuncId} {args args' : List AV} {v1 v2 v3 : AV} {j n cap sz : Nat} {es : List (List AV)} {rs : List AV}
    (hd1 : dOK c.nt (some d1) = true) (hd2 : dOK c.nt (some d2) = true) (he1 : Ent c.P f1) (he2 : Ent c.P f2) (hx1 : Less (s.op x1) (.fn (.func f1) [] [])) (hx2 : Less ((s.put (some d1) .any).op x2) (.fn (.func f2) [] []))
    (ha : LessL (as.toList.map s.op) args') (hlend : FzL j n cap sz es args' args) (hj : s.H[j]? = some (.cells (es.flatten ++ rs))) (hn : es.length = n) (hsz : ∀ q ∈ es, q.length = sz)
    (c1 : APure c.P f1 args v1) (c2 : APure c.P f2 [v1] v2) (hf : v2.flat = true) (hv : Less v2 v3) (hn1 : d1 < c.nt)
    (k : SeqWP c ops Q (i + 1 + 1) rest ((s.put (some d1) .any).put (some d2) v3)) :
    SeqWP c ops Q i (⟨some d1, .call ⟨.value x1, as, ats1⟩, t1, p1, af1, none⟩ :: ⟨some d2, .call ⟨.value x2, #[.tmp d1], ats2⟩, t2, p2, af2, none⟩ :: rest) s := by
  intro hdr e a hs
  obtain ⟨ho, hr⟩ := drop_cons hdr
  obtain ⟨ho2, hr2⟩ := drop_cons hr
  have ho : ops[i]? = some ⟨some d1, .call ⟨.value x1, as, ats1⟩, t1, p1, af1, none⟩ := by simpa using ho
  have ho2 : ops[i + 1]? = some ⟨some d2, .call ⟨.value x2, #[.tmp d1], ats2⟩, t2, p2, af2, none⟩ := by simpa using ho2
  simp only [List.length_cons, List.range'_succ, wpOpsIn, ho, Region.wanted, if_true]
  have hxr := hx1 e _ (hs.op x1)
  rw [Rep] at hxr
  obtain ⟨fv, cv, hfv, h1, h2⟩ := hxr
  rw [RepL] at h1 h2
  have h1 : fv = #[] := by simpa using h1
  have h2 : cv = #[] := by simpa using h2
  subst h1; subst h2
  have hargs : RepL e args' (as.map a.eval).toList := by
    have h3 : RepL e (as.toList.map s.op) (as.toList.map a.eval) := RepL.mapped fun y _ => hs.op y
    exact ha.rep (by simpa using h3)
  obtain ⟨e1, hw1, ok1, hr1, hback⟩ := lend_env (P := c.P) hs.ok hs.H hargs hlend hj hn hsz
  refine ⟨about_FW _ _ _ _ _, ?_⟩
  show Oper.uponIn (FW c.r) 0 c.P _ a _ (lift c Q) (((Oper.semAt c.r a.eval ⟨some d1, .call ⟨.value x1, as, ats1⟩, t1, p1, af1, none⟩)).run c.P e.w)
  rw [semAt_of (by intro c h; cases h), run_callop hfv he1]
  refine ⟨fun h => by simp [FW] at h, ?_⟩
  have hc1 := c1 e1 (as.map a.eval) ok1 hr1
  rw [hw1] at hc1
  have hemp : (#[] : Array Value) ++ as.map a.eval ++ #[] = as.map a.eval := by simp
  rw [hemp]
  refine CallsIn.mono (F := FW c.r) (n := 0) hc1 ?_
  rintro x w' ⟨u, e2, rfl, rfl, hxt, hu⟩
  have ok2 := ok1.ext hxt
  obtain ⟨e', hw', hx', _⟩ := hback e2 hxt
  have hs' : Sim c (s.put (some d1) .any) e' (a.put (some d1) u) := (hs.ext hx').put hd1 (by rw [Rep]; trivial)
  show wpOpsIn (FW c.r) 0 c.P ops (lift c Q) (List.range' (i + 1) (rest.length + 1)) (a.put (some d1) u) e2.w
  simp only [List.range'_succ, wpOpsIn, ho2, Region.wanted, if_true]
  have hxr2 := hx2 e' _ (hs'.op x2)
  rw [Rep] at hxr2
  obtain ⟨fv, cv, hfv2, g1, g2⟩ := hxr2
  rw [RepL] at g1 g2
  have g1 : fv = #[] := by simpa using g1
  have g2 : cv = #[] := by simpa using g2
  subst g1; subst g2
  have heval : (a.put (some d1) u).eval (.tmp d1) = u := by
    show (a.put (some d1) u).tmps.getD d1 undef = u
    simp [Act.put, hs.size, hn1]
  refine ⟨about_FW _ _ _ _ _, ?_⟩
  show Oper.uponIn (FW c.r) 0 c.P _ _ _ (lift c Q) (((Oper.semAt c.r (a.put (some d1) u).eval ⟨some d2, .call ⟨.value x2, #[.tmp d1], ats2⟩, t2, p2, af2, none⟩)).run c.P e2.w)
  rw [semAt_of (by intro c h; cases h), run_callop hfv2 he2]
  refine ⟨fun h => by simp [FW] at h, ?_⟩
  have hemp2 : (#[] : Array Value) ++ (#[Operand.tmp d1] : Array Operand).map (a.put (some d1) u).eval ++ #[] = #[u] := by simp [heval]
  rw [hemp2]
  have hc2 := c2 e2 #[u] ok2 (RepL.cons hu RepL.nil)
  refine CallsIn.mono (F := FW c.r) (n := 0) hc2 ?_
  rintro x w' ⟨u2, e3, rfl, rfl, hxt2, hu2⟩
  obtain ⟨e4, hw4, hx4, hflat⟩ := hback e3 (hxt.trans hxt2)
  show wpOpsIn (FW c.r) 0 c.P ops (lift c Q) (List.range' (i + 1 + 1) rest.length) ((a.put (some d1) u).put (some d2) u2) e3.w
  rw [← hw4]
  exact k hr2 e4 _ (((hs.ext hx4).put hd1 (by rw [Rep]; trivial)).put hd2 (hv _ _ (hflat _ _ hf hu2)))
end seq
end Go.Ab
