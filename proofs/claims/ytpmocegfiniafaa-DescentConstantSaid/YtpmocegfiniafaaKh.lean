/- A region that draws its order, with one floating alloc and one call that writes a cell: walked once. No Go in it. Printed by gen_kh.py. -/
import Derived.Test.YtpmocegfiniafaaKd
namespace Go.Proofs.Ytpmocegfiniafaa
set_option linter.unusedSimpArgs false
set_option linter.unusedVariables false
open Go.RowKit

section
variable {P : Program} {ops : Array Oper} {md : Region.Mode} {Y : Nat → Oper → Value → Act → Prop}
/-- Y leans only on what the operation looks at. -/
structure Stable (ops : Array Oper) (Y : Nat → Oper → Value → Act → Prop) : Prop where
  of : ∀ (i : Nat) (o : Oper) (v : Value) (a a' : Act), Y i o v a → execOp a'.eval o = execOp a.eval o → Region.wanted o (yielded ops a'.tmps) = Region.wanted o (yielded ops a.tmps) → Y i o v a'

/-- Operation i comes up; those from number n on leave the frame alone (in the model of the walk). -/
def vOp (P : Program) (ops : Array Oper) (Y : Nat → Oper → Value → Act → Prop) (n i : Nat) (K : Act → Prop) (a : Act) : Prop :=
  if n ≤ i then K a else match ops[i]? with
  | none => K a
  | some o => ∃ v, Y i o v a ∧ K (a.put o.dst v)

theorem vOp_mono {n i : Nat} {a : Act} {K K' : Act → Prop} (h : ∀ a, K a → K' a) (hh : vOp P ops Y n i K a) : vOp P ops Y n i K' a := by
  unfold vOp at *
  by_cases e : n ≤ i
  · rw [if_pos e] at *; exact h _ hh
  · rw [if_neg e] at *
    cases ho : ops[i]? with
    | none => simp only [ho] at hh ⊢; exact h _ hh
    | some o => simp only [ho] at hh ⊢; obtain ⟨v, h1, h2⟩ := hh; exact ⟨v, h1, h _ h2⟩

theorem vOp_put (SY : Stable ops Y) {n j i : Nat} {oi oj : Oper} {v : Value} (hj : ops[j]? = some oj) (hap : oi.apart ops oj = true)
    (hsi : ∀ cs b, oi.op ≠ .select cs b) (hsj : ∀ cs b, oj.op ≠ .select cs b) {K : Act → Prop} {a : Act}
    (hy : Y i oi v a) (h : vOp P ops Y n j K (a.put oi.dst v)) :
    vOp P ops Y n j (fun a' => Y i oi v a' ∧ K (a'.put oi.dst v)) a := by
  obtain ⟨h1, h2, h3⟩ := Oper.apart_spec hap
  unfold vOp at *
  by_cases e : n ≤ j
  · rw [if_pos e] at *; exact ⟨hy, h⟩
  · rw [if_neg e] at *
    simp only [hj] at *
    obtain ⟨u, hu, hk⟩ := h
    exact ⟨u, SY.of _ _ _ _ _ hu (execOp_put oj hsj a oi.dst v h1).symm (wanted_put oj a oi.dst v h1).symm, SY.of _ _ _ _ _ hy (execOp_put oi hsi a oj.dst u h3) (wanted_put oi a oj.dst u h3),
      by rw [← Act.put_comm a v u h2]; exact hk⟩

def headV (P : Program) (md : Region.Mode) (ops : Array Oper) (Y : Nat → Oper → Value → Act → Prop) (n N : Nat) (L : Array Bool → Act → Prop) : Nat → Array Bool → Act → Prop
  | 0, listed, a => L listed a
  | f + 1, listed, a =>
    Region.ready md ops listed ≠ [] ∧ ∀ i ∈ Region.ready md ops listed, i < N ∧ vOp P ops Y n i (headV P md ops Y n N L f (listed.setIfInBounds i true)) a

/-- An operation that may come up may be taken first. -/
theorem headV_first (SY : Stable ops Y) {n N i : Nat} {oi : Oper} {L : Array Bool → Act → Prop} (hi : ops[i]? = some oi) (hsel : ∀ (j : Nat) (o : Oper) cs b, ops[j]? = some o → o.op ≠ .select cs b)
    (hs : Region.sinkB md ops N = true) (hc : Region.chainB md ops N = true) (hn : N < ops.size) (hin : i < N)
    (hdone : ∀ listed a, L listed a → ∀ j ∈ Region.ready md ops listed, N ≤ j) :
    ∀ (f : Nat) (listed : Array Bool) (a : Act) (v : Value), HeadInv md ops N listed →
      (∀ j oj, ops[j]? = some oj → j ≠ i → listed.getD j true = false → (∀ e ∈ oj.after, Region.binds md e = true → e.on ≠ i) → oi.apart ops oj = true) →
      i ∈ Region.ready md ops listed → (¬ n ≤ i → Y i oi v a) →
      headV P md ops Y n N L f (listed.setIfInBounds i true) (if n ≤ i then a else a.put oi.dst v) → headV P md ops Y n N L (f + 1) listed a := by
  intro f
  induction f with
  | zero =>
    intro listed a v inv _ hr hy H
    have hun := (mem_ready.1 hr).1
    refine ⟨fun h => (by rw [h] at hr; cases hr), fun j hj => ?_⟩
    have hjn : j < N := by
      rcases Nat.lt_or_ge j N with h | h
      · exact h
      · exact absurd hj (tail_waits hs hc hn inv _ i rfl hin hun j h)
    refine ⟨hjn, ?_⟩
    by_cases hji : j = i
    · subst hji
      unfold vOp
      by_cases e : n ≤ j
      · rw [if_pos e] at *; exact H
      · rw [if_neg e] at *; simp only [hi]; exact ⟨v, hy e, H⟩
    · have := hdone _ _ H j (ready_mono hj hji)
      omega
  | succ f ih =>
    intro listed a v inv hfree hr hy H
    have hun := (mem_ready.1 hr).1
    refine ⟨fun h => (by rw [h] at hr; cases hr), fun j hj => ?_⟩
    have hjn : j < N := by
      rcases Nat.lt_or_ge j N with h | h
      · exact h
      · exact absurd hj (tail_waits hs hc hn inv _ i rfl hin hun j h)
    refine ⟨hjn, ?_⟩
    by_cases hji : j = i
    · subst hji
      unfold vOp
      by_cases e : n ≤ j
      · rw [if_pos e] at *; exact H
      · rw [if_neg e] at *; simp only [hi]; exact ⟨v, hy e, H⟩
    · have h1 := (H.2 j (ready_mono hj hji)).2
      obtain ⟨hjun, oj, hoj, hall⟩ := mem_ready.1 hj
      have hnot : ∀ e ∈ oj.after, Region.binds md e = true → e.on ≠ i := fun e he hb heq => by
        have h1 := hall e he hb
        rw [heq, getD_both hun] at h1
        cases h1
      have hfree' : ∀ k ok, ops[k]? = some ok → k ≠ i → (listed.setIfInBounds j true).getD k true = false →
          (∀ e ∈ ok.after, Region.binds md e = true → e.on ≠ i) → oi.apart ops ok = true := fun k ok hk hki hun hno => by
        refine hfree k ok hk hki ?_ hno
        by_cases hjk : j = k
        · subst hjk; exact hjun
        · rw [getD_set_ne true hjk] at hun; exact hun
      by_cases e : n ≤ i
      · rw [if_pos e] at H h1
        refine vOp_mono (fun a' h3 => ih (listed.setIfInBounds j true) a' v (inv.set hj hjn) hfree' (ready_mono hr (Ne.symm hji)) (fun h => absurd e h) ?_) h1
        rw [if_pos e, Array.setIfInBounds_comm _ _ hji]
        exact h3
      · rw [if_neg e] at H h1
        have h2 := vOp_put SY hoj (hfree j oj hoj hji hjun hnot) (fun cs b => hsel i oi cs b hi) (fun cs b => hsel j oj cs b hoj) (hy e) h1
        refine vOp_mono (fun a' h3 => ih (listed.setIfInBounds j true) a' v (inv.set hj hjn) hfree' (ready_mono hr (Ne.symm hji)) (fun _ => h3.1) ?_) h2
        rw [if_neg e, Array.setIfInBounds_comm _ _ hji]
        exact h3.2

/-- The walk in the order of the text. -/
def wpV (P : Program) (ops : Array Oper) (Y : Nat → Oper → Value → Act → Prop) (n : Nat) (K : Act → Prop) : Nat → List Oper → Act → Prop
  | _, [], a => K a
  | k, o :: rest, a => if n ≤ k then wpV P ops Y n K (k + 1) rest a else ∃ v, Y k o v a ∧ wpV P ops Y n K (k + 1) rest (a.put o.dst v)

theorem headV_lex (SY : Stable ops Y) {n N g : Nat} {Lq : Act → Prop} (hsel : Region.noSelect ops = true) (hs : Region.sinkB md ops N = true) (hc : Region.chainB md ops N = true) (hn : N < ops.size) :
    ∀ (l : List Oper) (k : Nat) (listed : Array Bool) (a : Act), (∀ j, j < l.length → l[j]? = ops[k + j]?) → k + l.length = N → HeadInv md ops N listed →
    Region.lexHead md ops g l.length k listed = true → wpV P ops Y n Lq k l a →
    headV P md ops Y n N (fun listed' a' => Region.seqB md ops g N listed' = true ∧ Lq a') l.length listed a
  | [], k, listed, a, _, hk, _, hB, h => by
    have : k = N := by simpa using hk
    subst this
    exact ⟨by simpa [Region.lexHead] using hB, h⟩
  | o :: l, k, listed, a, hl, hk, inv, hB, h => by
    have h0 : ops[k]? = some o := by simpa using (hl 0 (by simp)).symm
    simp only [List.length_cons, Region.lexHead, Bool.and_eq_true] at hB
    obtain ⟨⟨hr, hf⟩, hB'⟩ := hB
    have hkn : k < N := by simp only [List.length_cons] at hk; omega
    have hr' : k ∈ Region.ready md ops listed := by simpa using hr
    have hrec := fun a' => headV_lex SY (n := n) (Lq := Lq) hsel hs hc hn l (k + 1) (listed.setIfInBounds k true) a' (fun j hj => by have := hl (j + 1) (by simp; omega); simpa [Nat.add_assoc, Nat.add_comm 1 j] using this)
      (by simp only [List.length_cons] at hk; omega) (inv.set hr' hkn) hB'
    unfold wpV at h
    by_cases e : n ≤ k
    · rw [if_pos e] at h
      exact headV_first SY h0 (Region.noSelect_spec hsel) hs hc hn hkn (fun listed' a' hL => seqB_ready hL.1) l.length listed a undef inv (Region.free_spec h0 hf) hr' (fun h => absurd e h) (by rw [if_pos e]; exact hrec _ h)
    · rw [if_neg e] at h
      obtain ⟨v, hy, hK⟩ := h
      exact headV_first SY h0 (Region.noSelect_spec hsel) hs hc hn hkn (fun listed' a' hL => seqB_ready hL.1) l.length listed a v inv (Region.free_spec h0 hf) hr' (fun _ => hy) (by rw [if_neg e]; exact hrec _ hK)

end
theorem below_both {W w : World} (h : Below W.heap.size W w) (p : Addr) (x : Value) : Below (W.setCell p x).heap.size (W.setCell p x) (w.setCell p x) := by
  refine ⟨h.os, h.tape, h.output, by simpa using h.size, fun k hk => ?_⟩
  have hk' : k < W.heap.size := by simpa using hk
  simp only [World.setCell, Array.getElem?_modify, h.block k hk']
theorem block_far {W : World} {p : Addr} {x : Value} {B : Nat} (h : p.block ≠ B) : (W.setCell p x).heap[B]? = W.heap[B]? := by
  simp only [World.setCell, Array.getElem?_modify, if_neg h]
theorem getD_flip {l : Array Bool} {i : Nat} (hi : i < l.size) (h : l.getD i true = true) : l.getD i false = true := by simpa [Array.getD, hi] using h
section
variable {P : Program} {ops : Array Oper} {md : Region.Mode} {W : World}
theorem all_listed {g N : Nat} {listed : Array Bool} (hsz : listed.size = ops.size) (hs : Region.seqB md ops g N listed = true) (hb : ∀ (i : Nat) (o : Oper), i < N → ops[i]? = some o → ∀ e ∈ o.after, Region.binds md e = true → e.on < i) (hN : N ≤ ops.size) : ∀ i, i < N → listed.getD i true = true := by
  intro i
  induction i using Nat.strongRecOn with
  | _ i ih =>
    intro hi
    cases hf : listed.getD i true with
    | true => rfl
    | false =>
      exfalso
      have hil : i < ops.size := by omega
      have : i ∈ Region.ready md ops listed := mem_ready.2 ⟨hf, ops[i], Array.getElem?_eq_getElem hil, fun e he hbd => by
        have h1 := hb i ops[i] hi (Array.getElem?_eq_getElem hil) e he hbd
        exact getD_flip (by omega) (ih e.on h1 (by omega))⟩
      have := seqB_ready hs i this
      omega

/-- The call writes the cell p; all else is quiet before it and behind it. -/
def YW (P : Program) (ops : Array Oper) (W : World) (p : Addr) (x : Value) (c : Nat) (i : Nat) (o : Oper) (v : Value) (a : Act) : Prop :=
  if i = c then Region.wanted o (yielded ops a.tmps) = true ∧ ∀ w, XC W w → ∃ f args, (execOp a.eval o).run P w = .ok (.enter f args) w ∧ Calls P f args w fun e w'' => e = .returned v ∧ XC (w.setCell p x) w''
  else ∀ X, (X = W ∨ X = W.setCell p x) → YU P ops X o v a
theorem YW.stable (p : Addr) (x : Value) (c : Nat) : Stable ops (YW P ops W p x c) := ⟨fun i o v a a' h he hw => by
  unfold YW at *
  by_cases e : i = c
  · rw [if_pos e] at *; rw [he, hw]; exact h
  · rw [if_neg e] at *; exact fun X hX => (h X hX).of_same he hw⟩

def StageW (W : World) (p : Addr) (x : Value) (c : Nat) (Z : Obj) (t : Tmp) (n : Nat) (listed : Array Bool) (a r : Act) (w : World) : Prop :=
  ∃ X : World, ((listed.getD c true = false ∧ X = W) ∨ (listed.getD c true = true ∧ X = W.setCell p x)) ∧ Stage X Z t n listed a r w

theorem simW {n g c : Nat} {p : Addr} {x : Value} {Lq : Act → Prop} {Z : Obj} {t : Tmp} {al : Oper} {Q' : Exit → Act → World → Prop} (hp : p.block < W.heap.size) (hcn : c < n) (hn : ops[n]? = some al) (hdst : al.dst = some t) (hg : al.guard = none)
    (hal : ∀ (a : Act) (w : World), (execOp a.eval al).run P w = .ok (.value (.pointer (some ⟨w.heap.size, 0, none⟩))) (w.alloc Z))
    (hsel : ∀ (j : Nat) (o : Oper) cs b, ops[j]? = some o → o.op ≠ .select cs b) (hap : ∀ i o, i < n → ops[i]? = some o → o.apart ops al = true)
    (hb : ∀ (i : Nat) (o : Oper), i < n + 1 → ops[i]? = some o → ∀ e ∈ o.after, Region.binds md e = true → e.on < i)
    (hL : ∀ (W' : Ext (W.setCell p x)) (B : Nat) (listed : Array Bool) (a : Act) (w : World), W.heap.size ≤ B → B < W'.w.heap.size → W'.w.heap[B]? = some Z → XC W'.w w → Region.seqB md ops g (n + 1) listed = true → Lq a →
      wpAny P md ops Q' g listed (a.put (some t) (.pointer (some ⟨B, 0, none⟩))) w) :
    ∀ (f : Nat) (listed : Array Bool) (a r : Act) (w : World), listed.size = ops.size → StageW W p x c Z t n listed a r w →
      headV P md ops (YW P ops W p x c) n (n + 1) (fun listed' a' => Region.seqB md ops g (n + 1) listed' = true ∧ Lq a') f listed a → wpAny P md ops Q' (f + g) listed r w
  | 0, listed, a, r, w, hsz, ⟨X, hX, hst⟩, h => by
    rw [Nat.zero_add]
    have hnl : n < ops.size := (Array.getElem?_eq_some_iff.1 hn).1
    have hall := all_listed hsz h.1 hb (by omega)
    rcases hX with ⟨h1, _⟩ | ⟨_, rfl⟩
    · rw [hall c (by omega)] at h1; cases h1
    rcases hst with ⟨h1, _, _⟩ | ⟨_, W', B, hB0, hB1, hB2, rfl, hw⟩
    · rw [hall n (by omega)] at h1; cases h1
    · exact hL W' B listed a w (by simpa using hB0) hB1 hB2 hw h.1 h.2
  | f + 1, listed, a, r, w, hsz, ⟨X, hX, hst⟩, h => by
    rw [show f + 1 + g = (f + g) + 1 by omega]
    refine ⟨fun h0 => absurd h0 h.1, fun i hi => ?_⟩
    obtain ⟨hin, hu⟩ := h.2 i hi
    obtain ⟨hun, oi, hoi, _⟩ := mem_ready.1 hi
    have hil : i < ops.size := (Array.getElem?_eq_some_iff.1 hoi).1
    have hsz' : (listed.setIfInBounds i true).size = ops.size := by simpa using hsz
    have hset : (listed.setIfInBounds i true).getD i true = true := by simp [hsz, hil]
    have hXs : X.heap.size = W.heap.size := by
      rcases hX with ⟨_, rfl⟩ | ⟨_, rfl⟩
      · rfl
      · simp
    by_cases e : i = n
    · subst e
      have : oi = al := Option.some.inj (hoi.symm.trans hn)
      subst this
      unfold vOp at hu
      rw [if_pos (Nat.le_refl _)] at hu
      rcases hst with ⟨h1, rfl, u, rfl⟩ | ⟨h1, _⟩
      · refine alloc_runs hn hdst hg hal ?_
        have hbl : Below X.heap.size X (u.w.alloc Z) := u.h.alloc u.h.size Z
        refine simW hp hcn hn hdst hg hal hsel hap hb hL f _ r _ _ hsz' ⟨X, ?_, .inr ⟨hset, ⟨u.w.alloc Z, hbl⟩, u.w.heap.size, u.h.size, by simp, alloc_at _ _, rfl, ⟨_, Below.refl _ _⟩, rfl⟩⟩ hu
        rw [getD_set_ne true (by omega)]
        exact hX
      · rw [hun] at h1; cases h1
    · unfold vOp at hu
      rw [if_neg (by omega)] at hu
      simp only [hoi] at hu
      obtain ⟨v, hy, hk⟩ := hu
      have hln : (listed.setIfInBounds i true).getD n true = listed.getD n true := getD_set_ne true e
      obtain ⟨q1, q2, q3⟩ := Oper.apart_spec (hap i oi (by omega) hoi)
      rw [hdst] at q2 q3
      by_cases ec : i = c
      · have ec' := ec.symm
        subst ec'
        rcases hX with ⟨_, hXW⟩ | ⟨h1, _⟩
        · have hXW' := hXW.symm
          subst hXW'
          have key : ∀ (r : Act) (w : World), YW P ops W p x c c oi v r → XC W w → ∀ K' : Act → World → Prop, (∀ w', XC (w.setCell p x) w' → K' (r.put oi.dst v) w') → wpOp P ops Q' c K' r w := fun r w hr hw K' hK => by
            unfold YW at hr
            rw [if_pos rfl] at hr
            obtain ⟨hwt, hc⟩ := hr
            obtain ⟨f, args, he, hcall⟩ := hc w hw
            unfold wpOp
            simp only [hoi]
            rw [if_pos hwt]
            refine .inl ?_
            unfold Oper.wp
            rw [he]
            simp only [Oper.upon]
            exact hcall.mono fun e w'' ⟨he, hw''⟩ => by subst he; exact hK _ hw''
          rcases hst with ⟨h1, rfl, hw⟩ | ⟨h1, W', B, hB0, hB1, hB2, rfl, hw⟩
          · refine key r w hy hw _ fun w' hw' => ?_
            obtain ⟨u, rfl⟩ := hw
            obtain ⟨u', rfl⟩ := hw'
            refine simW hp hcn hn hdst hg hal hsel hap hb hL f _ _ _ _ hsz' ⟨_, .inr ⟨hset, rfl⟩, .inl ⟨hln.trans h1, rfl, ?_⟩⟩ hk
            have hbb := below_both u.h p x
            exact ⟨⟨u'.w, hbb.trans (u'.h.mono hbb.size)⟩, rfl⟩
          · have hr : YW P ops W p x c c oi v (a.put (some t) (.pointer (some ⟨B, 0, none⟩))) := (YW.stable p x c).of _ _ _ _ _ hy (execOp_put oi (fun cs b => hsel c oi cs b hoi) a (some t) _ q3) (wanted_put oi a (some t) _ q3)
            obtain ⟨u, rfl⟩ := hw
            refine key _ _ hr ⟨⟨u.w, W'.h.trans (u.h.mono W'.h.size)⟩, rfl⟩ _ fun w' hw' => ?_
            obtain ⟨u', rfl⟩ := hw'
            have hbb := below_both u.h p x
            refine simW hp hcn hn hdst hg hal hsel hap hb hL f _ _ _ _ hsz' ⟨_, .inr ⟨hset, rfl⟩, .inr ⟨hln.trans h1, ⟨W'.w.setCell p x, below_both W'.h p x⟩, B, by simpa using hB0, by simpa using hB1, (block_far (by omega)).trans hB2, (Act.put_comm a v _ q2).symm, ⟨u'.w, hbb.trans (u'.h.mono hbb.size)⟩, rfl⟩⟩ hk
        · rw [hun] at h1; cases h1
      · have hlc : (listed.setIfInBounds i true).getD c true = listed.getD c true := getD_set_ne true ec
        have hX' : ((listed.setIfInBounds i true).getD c true = false ∧ X = W) ∨ ((listed.setIfInBounds i true).getD c true = true ∧ X = W.setCell p x) := by rw [hlc]; exact hX
        unfold YW at hy
        rw [if_neg ec] at hy
        have hy := hy X (hX.elim (fun h => .inl h.2) (fun h => .inr h.2))
        rcases hst with ⟨h1, rfl, hw⟩ | ⟨h1, W', B, hB0, hB1, hB2, rfl, hw⟩
        · exact wpOp_of_yields (C := XC X) hoi hw (hy ⟨X, Below.refl _ _⟩) fun w' hw' => simW hp hcn hn hdst hg hal hsel hap hb hL f _ _ _ _ hsz' ⟨X, hX', .inl ⟨hln.trans h1, rfl, hw'⟩⟩ hk
        · have hy' : YieldsIn P ops (XC W'.w) oi v (a.put (some t) (.pointer (some ⟨B, 0, none⟩))) :=
            (hy W').of_same (execOp_put oi (fun cs b => hsel i oi cs b hoi) a (some t) _ q3) (wanted_put oi a (some t) _ q3)
          refine wpOp_of_yields (C := XC W'.w) hoi hw hy' fun w' hw' => ?_
          exact simW hp hcn hn hdst hg hal hsel hap hb hL f _ _ _ _ hsz' ⟨X, hX', .inr ⟨hln.trans h1, W', B, hB0, hB1, hB2, (Act.put_comm a v _ q2).symm, hw'⟩⟩ hk

/-- Quiet operations in a row, ahead of what is still to be walked. -/
theorem wpV_of {n m c : Nat} {p : Addr} {x : Value} {A : Act} {K : Act → Prop} {rest : List Oper} : ∀ (l : List Oper) (k : Nat) (a : Act), k + l.length ≤ n → (c < k ∨ k + l.length ≤ c) → dstOK m l = true → a.tmps.size = m →
    (∀ X, (X = W ∨ X = W.setCell p x) → ∀ W' : Ext X, wpQuiet P ops (XC W'.w) (fun a' => a' = A) l a) → wpV P ops (YW P ops W p x c) n K (k + l.length) rest A → wpV P ops (YW P ops W p x c) n K k (l ++ rest) a
  | [], k, a, _, _, _, _, h, hK => by
    have e : a = A := h W (.inl rfl) ⟨W, Below.refl _ _⟩
    rw [e]; exact hK
  | o :: l, k, a, hk, hc, hd, hsz, h, hK => by
    have hk' : k + (l.length + 1) ≤ n := hk
    have hkn : ¬ n ≤ k := by omega
    have hkc : k ≠ c := by simp only [List.length_cons] at hc; omega
    show wpV P ops (YW P ops W p x c) n K k (o :: (l ++ rest)) a
    unfold wpV
    rw [if_neg hkn]
    unfold dstOK at hd
    simp only [Bool.and_eq_true] at hd
    obtain ⟨hd1, hd2⟩ := hd
    cases hdst : o.dst with
    | none => rw [hdst] at hd1; cases hd1
    | some d =>
      rw [hdst] at hd1
      simp only [Bool.and_eq_true, decide_eq_true_eq, List.all_eq_true] at hd1
      obtain ⟨hdm, hdl⟩ := hd1
      have hl : ∀ q ∈ l, q.dst ≠ some d := fun q hq e => by have := hdl q hq; rw [e] at this; simp at this
      have hrec := fun v h' => wpV_of (n := n) (m := m) (c := c) (p := p) (x := x) (A := A) (K := K) (rest := rest) l (k + 1) (a.put (some d) v) (by omega) (by simp only [List.length_cons] at hc; omega) hd2 (by rw [put_size]; exact hsz) h' (by rw [show k + 1 + l.length = k + (l.length + 1) by omega]; exact hK)
      by_cases hw : Region.wanted o (yielded ops a.tmps) = true
      · have hv : ∀ X, (X = W ∨ X = W.setCell p x) → ∀ W' : Ext X, (∀ w, XC W'.w w → o.quietAt P a (XC W'.w) w (A.tmps.getD d undef)) ∧ wpQuiet P ops (XC W'.w) (fun a' => a' = A) l (a.put (some d) (A.tmps.getD d undef)) := fun X hX W' => by
          have h0 := h X hX W'
          unfold wpQuiet at h0
          rw [if_pos hw] at h0
          obtain ⟨v, h1, h2⟩ := h0
          rw [hdst] at h2
          have e : A.tmps.getD d undef = v := by rw [quiet_final l _ hl h2, put_same a v d (by rw [hsz]; exact hdm)]
          rw [e]
          exact ⟨h1, h2⟩
        refine ⟨_, ?_, hrec _ fun X hX W' => (hv X hX W').2⟩
        unfold YW
        rw [if_neg hkc]
        exact fun X hX W' => .inl ⟨hw, (hv X hX W').1⟩
      · refine ⟨undef, ?_, hrec _ fun X hX W' => ?_⟩
        · unfold YW
          rw [if_neg hkc]
          exact fun X hX W' => .inr ⟨by simpa using hw, rfl⟩
        · have h0 := h X hX W'
          unfold wpQuiet at h0
          rw [if_neg hw, hdst] at h0
          exact h0
end

/-- What is known of the parts of such a region: the operations ahead of the call, the call, those behind it. -/
def PartsW (P : Program) (l : List Oper) (n m c : Nat) (p : Addr) (x : Value) (oc : Oper) (d : Tmp) (a : Act) (w : World) (A : Act) : Prop :=
  ∃ (A1 : Act) (v : Value), A1.tmps.size = m ∧ Region.wanted oc (yielded l.toArray A1.tmps) = true ∧
    (∀ X, (X = w ∨ X = w.setCell p x) → ∀ W' : Ext X, wpQuiet P l.toArray (fun w' => ∃ u : Ext W'.w, w' = u.w) (fun a' => a' = A1) (l.take c) a) ∧
    (∀ u : Ext w, ∃ f args, (execOp A1.eval oc).run P u.w = .ok (.enter f args) u.w ∧ Calls P f args u.w fun e w'' => e = .returned v ∧ Below (u.w.setCell p x).heap.size (u.w.setCell p x) w'') ∧
    (∀ X, (X = w ∨ X = w.setCell p x) → ∀ W' : Ext X, wpQuiet P l.toArray (fun w' => ∃ u : Ext W'.w, w' = u.w) (fun a' => a' = A) ((l.take n).drop (c + 1)) (A1.put (some d) v))

theorem wpAny_floatw {P : Program} {Q : Exit → Act → World → Prop} {a : Act} {w : World} {l : List Oper} (n m c : Nat) (p : Addr) (x : Value) (al oc : Oper) (t d : Tmp) (Z : Obj)
    (hB : Region.lexTailB .any l.toArray (n + 1) = true) (hn : l[n]? = some al) (hoc : l[c]? = some oc) (hcn : c < n) (hdst : al.dst = some t) (hcd : oc.dst = some d) (hg : al.guard = none)
    (hal : ∀ (a : Act) (w : World), (execOp a.eval al).run P w = .ok (.value (.pointer (some ⟨w.heap.size, 0, none⟩))) (w.alloc Z))
    (hap : ((l.take n).all fun o => o.apart l.toArray al) = true) (hd1 : dstOK m (l.take c) = true) (hd2 : dstOK m ((l.take n).drop (c + 1)) = true) (hb : ∀ (i : Nat) (o : Oper), i < n + 1 → l[i]? = some o → ∀ e ∈ o.after, Region.binds .any e = true → e.on < i) (hsz : a.tmps.size = m) (hp : p.block < w.heap.size) {A : Act}
    (h1 : PartsW P l n m c p x oc d a w A)
    (h2 : ∀ (B : Nat) (w' : World), Below (w.setCell p x).heap.size (w.setCell p x) w' → w.heap.size ≤ B → B < w'.heap.size → w'.heap[B]? = some Z → wpList P l.toArray Q (l.drop (n + 1)) (A.put (some t) (.pointer (some ⟨B, 0, none⟩))) w') :
    wpAny P .any l.toArray Q l.toArray.size (Array.replicate l.toArray.size false) a { w with drawn := w.drawn + 1 } := by
  simp only [Region.lexTailB, Bool.and_eq_true, decide_eq_true_eq] at hB
  obtain ⟨⟨⟨⟨hsel, hn1⟩, hs⟩, hc⟩, hlex⟩ := hB
  have hn' : n + 1 < l.length := by simpa using hn1
  have htl : (l.take (n + 1)).length = n + 1 := by simp; omega
  have hdl : (l.drop (n + 1)).length = l.toArray.size - (n + 1) := by simp
  have hsplit : l.take (n + 1) = l.take c ++ (oc :: ((l.take n).drop (c + 1) ++ [al])) := by
    have e1 : l.take (n + 1) = l.take n ++ [al] := by rw [List.take_add_one, hn]; rfl
    have e2 : l.take n = l.take c ++ (l.take n).drop c := by
      have := (List.take_append_drop c (l.take n)).symm
      rwa [List.take_take, Nat.min_eq_left (by omega)] at this
    have e3 : (l.take n).drop c = oc :: (l.take n).drop (c + 1) := by
      have hlt : c < (l.take n).length := by simp; omega
      rw [List.drop_eq_getElem_cons hlt]
      congr 1
      have := (List.getElem?_eq_some_iff.1 hoc).2
      simpa using this
    have e4 : l.take n = l.take c ++ (oc :: (l.take n).drop (c + 1)) := e2.trans (congrArg _ e3)
    exact e1.trans ((congrArg (fun z => z ++ [al]) e4).trans (by simp only [List.append_assoc, List.cons_append]))
  have inv0 : HeadInv .any l.toArray (n + 1) (Array.replicate l.toArray.size false) :=
    ⟨by simp, fun j oj _ hl => (by rw [getD_replicate_false] at hl; cases hl), fun t _ ht => getD_in (by simpa using ht) (getD_replicate_false _ _)⟩
  obtain ⟨A1, v, hA1, hwt, q1, q2, q3⟩ := h1
  have hlc : (l.take c).length = c := by simp; omega
  have hld : ((l.take n).drop (c + 1)).length = n - (c + 1) := by simp; omega
  have hU : wpV P l.toArray (YW P l.toArray w p x c) n (fun a' => a' = A) 0 (l.take (n + 1)) a := by
    rw [hsplit]
    refine wpV_of (W := w) (n := n) (m := m) (c := c) (p := p) (x := x) (A := A1) (l.take c) 0 a (by omega) (by omega) hd1 hsz q1 ?_
    rw [hlc, Nat.zero_add]
    unfold wpV
    rw [if_neg (by omega)]
    refine ⟨v, ?_, ?_⟩
    · unfold YW
      rw [if_pos rfl]
      refine ⟨hwt, ?_⟩
      rintro _ ⟨u, rfl⟩
      obtain ⟨f, args, g1, g2⟩ := q2 u
      exact ⟨f, args, g1, g2.mono fun e w'' ⟨he, hw⟩ => ⟨he, ⟨w'', hw⟩, rfl⟩⟩
    · rw [hcd]
      refine wpV_of (W := w) (n := n) (m := m) (c := c) (p := p) (x := x) (A := A) _ (c + 1) _ (by omega) (by omega) hd2 (by rw [put_size]; exact hA1) q3 ?_
      rw [hld, show c + 1 + (n - (c + 1)) = n by omega]
      unfold wpV
      rw [if_pos (Nat.le_refl _)]
      rfl
  have H := headV_lex (md := .any) (YW.stable p x c) (g := l.toArray.size - (n + 1)) hsel hs hc hn1 (l.take (n + 1)) 0 _ a (fun j hj => by
    have hj' : j < n + 1 := by rw [htl] at hj; exact hj
    simp [hj']) (by simpa using htl) inv0 (by rw [htl]; exact hlex) hU
  have hnA : l.toArray[n]? = some al := by simpa using hn
  have := simW (P := P) (W := w) (Q' := Q) (Z := Z) (t := t) (p := p) (x := x) hp hcn hnA hdst hg hal (Region.noSelect_spec hsel)
    (fun i o hi ho => by
      have h3 := List.all_eq_true.1 hap o (by
        refine List.mem_iff_getElem?.2 ⟨i, ?_⟩
        rw [List.getElem?_take, if_pos hi]
        simpa using ho)
      exact h3)
    (fun i o hi ho => hb i o hi (by simpa using ho))
    (fun W' B listed a' w' hB0 hB1 hB2 ⟨u, hu⟩ hseq hA => by
      subst hu
      subst hA
      have hb := u.h
      have h3 := h2 B u.w (W'.h.trans (hb.mono W'.h.size)) hB0 (Nat.lt_of_lt_of_le hB1 hb.size) ((hb.block B hB1).trans hB2)
      have := wpAny_of_seq (md := .any) (Q' := Q) (l.drop (n + 1)) (n + 1) listed _ u.w (fun j => by simp [List.getElem?_drop]) (by rw [hdl]; exact hseq) h3
      rwa [hdl] at this)
    _ _ a a { w with drawn := w.drawn + 1 } (by simp) ⟨w, .inl ⟨getD_in (by simp; omega) (getD_replicate_false _ _), rfl⟩, .inl ⟨getD_in (by simp; omega) (getD_replicate_false _ _), rfl, ⟨_, (Below.refl _ _).drew⟩, rfl⟩⟩ H
  rw [htl, show n + 1 + (l.toArray.size - (n + 1)) = l.toArray.size by omega] at this
  exact this

def backB (l : List Oper) (n : Nat) : Bool := (List.range n).all fun i => match l[i]? with | some o => o.after.toList.all fun e => !Region.binds .any e || decide (e.on < i) | none => true
theorem back_of {l : List Oper} {n : Nat} (h : backB l n = true) : ∀ (i : Nat) (o : Oper), i < n → l[i]? = some o → ∀ e ∈ o.after, Region.binds .any e = true → e.on < i := fun i o hi ho e he hbd => by
  have := List.all_eq_true.1 h i (List.mem_range.2 hi)
  rw [ho] at this
  have := List.all_eq_true.1 this e (by simpa using he)
  simpa [hbd] using this

/-- n: the alloc; n - 1 = e: the late operation; n + 1: the store; c: the call that writes the cell p. -/
theorem wp_region_floatlw {P : Program} {id : Nat} {Q : Exit → Act → World → Prop} {a : Act} {w : World} {l : List Oper} (n e m c : Nat) (p : Addr) (x : Value) (al oc os : Oper) (tl : List Oper) (t d : Tmp) (Z : Obj) (hm : P.follows .mixedOrders = true)
    (hos : l[n + 1]? = some os) (htl : l.drop (n + 1) = os :: tl) (hlate : lateB l e (n + 1) = true)
    (hB : Region.lexTailB .any (l.set (n + 1) (edged os e)).toArray (n + 1) = true) (hn : l[n]? = some al) (hoc : l[c]? = some oc) (hcn : decide (c < n ∧ e < n + 1) = true) (hdst : al.dst = some t) (hcd : oc.dst = some d) (hg : al.guard = none)
    (hal : ∀ (a : Act) (w : World), (execOp a.eval al).run P w = .ok (.value (.pointer (some ⟨w.heap.size, 0, none⟩))) (w.alloc Z))
    (hQ : ∀ c (a : Act) (d : Option Tmp) (v : Value) w, Q (.panic c) (a.put d v) w → Q (.panic c) a w)
    (hap : (((l.set (n + 1) (edged os e)).take n).all fun o => o.apart (l.set (n + 1) (edged os e)).toArray al) = true) (hd1 : dstOK m (l.take c) = true) (hd2 : dstOK m ((l.take n).drop (c + 1)) = true) (hbk : backB (l.set (n + 1) (edged os e)) (n + 1) = true) (hsz : a.tmps.size = m) (hp : p.block < w.heap.size)
    (h : ∃ A : Act, PartsW P l n m c p x oc d a w A ∧
      ∀ (B : Nat) (w' : World), Below (w.setCell p x).heap.size (w.setCell p x) w' → w.heap.size ≤ B → B < w'.heap.size → w'.heap[B]? = some Z → wpList P l.toArray Q (os :: tl) (A.put (some t) (.pointer (some ⟨B, 0, none⟩))) w') :
    (Code.region id l.toArray true).wp P Q a w := by
  obtain ⟨A, ⟨A1, v, r0, r1, r2, r3, r4⟩, h2⟩ := h
  have hcn := of_decide_eq_true hcn
  have L := late_of hos hlate
  have hy := L.yielded
  have htk : (l.set (n + 1) (edged os e)).take n = l.take n := by rw [List.take_set_of_le (by omega)]
  have htc : (l.set (n + 1) (edged os e)).take c = l.take c := by rw [List.take_set_of_le (by omega)]
  have hdr : (l.set (n + 1) (edged os e)).drop (n + 1) = edged os e :: tl := by
    have hlt : n + 1 < l.length := (List.getElem?_eq_some_iff.1 hos).1
    rw [List.drop_set, if_neg (by omega), htl]; simp
  have key : wpAny P .any (l.set (n + 1) (edged os e)).toArray Q (l.set (n + 1) (edged os e)).toArray.size (Array.replicate (l.set (n + 1) (edged os e)).toArray.size false) a { w with drawn := w.drawn + 1 } := by
    refine wpAny_floatw n m c p x al oc t d Z hB (by rw [List.getElem?_set_ne (by omega)]; exact hn) (by rw [List.getElem?_set_ne (by omega)]; exact hoc) hcn.1 hdst hcd hg hal hap (by rw [htc]; exact hd1) (by rw [htk]; exact hd2) (back_of hbk) hsz hp (A := A) ?_ ?_
    · refine ⟨A1, v, r0, ?_, ?_, r3, ?_⟩
      · rw [show yielded (l.set (n + 1) (edged os e)).toArray A1.tmps = yielded l.toArray A1.tmps from funext (hy A1.tmps)]; exact r1
      · intro X hX W'; rw [htc]; exact wpQuiet_ops hy _ _ (r2 X hX W')
      · intro X hX W'; rw [htk]; exact wpQuiet_ops hy _ _ (r4 X hX W')
    · intro B w' g1 g2 g3 g4
      rw [hdr]
      exact wpList_edged (wpList_ops hy _ _ _ (h2 B w' g1 g2 g3 g4))
  refine wp_region_any hm ?_
  have hsize : (l.set (n + 1) (edged os e)).toArray.size = l.toArray.size := by simp
  rw [hsize] at key
  exact wpAny_late L hQ (fun o t c ho a w => extract_asks o t c ho a w) _ _ _ _ (by simp) key
end Go.Proofs.Ytpmocegfiniafaa
