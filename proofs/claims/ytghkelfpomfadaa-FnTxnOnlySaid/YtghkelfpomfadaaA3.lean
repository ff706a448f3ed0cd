/- The abstract logic, third part: regions in any order. No condition beyond what each lemma states. -/
import Derived.Test.YtghkelfpomfadaaA2
import Derived.Still
set_option linter.unusedVariables false
set_option linter.unusedSimpArgs false
section
namespace Go.Ae
set_option linter.unusedVariables false
set_option linter.unusedSimpArgs false

/-! ### Regions that draw their order -/
theorem bnd_congr {s s' : Slots} {x : Option Operand} {d : Int} (h : ∀ y, x = some y → ev s y = ev s' y) : bnd s x d = bnd s' x d := by
  cases x with
  | none => rfl
  | some y => simp only [bnd, h y rfl]

theorem map_congr_ev {s s' : Slots} {l : List Operand} (h : ∀ x ∈ l, ev s x = ev s' x) : l.map (ev s) = l.map (ev s') := List.map_congr_left h

theorem builtinK_congr {P : Program} {b : Builtin} {args : List Operand} {ts : List TypeId} {s s' : Slots} {H : Heap} {K : AV → Heap → Prop} (h : ∀ x ∈ args, ev s x = ev s' x) :
    builtinK P b args ts s H K = builtinK P b args ts s' H K := by
  unfold builtinK
  split
  · rw [h _ (by simp)]
  · rw [h _ (by simp)]
  · rw [h _ (by simp), h _ (List.mem_cons_of_mem _ (List.mem_singleton.2 rfl))]
  · rw [h _ (by simp), h _ (List.mem_cons_of_mem _ (List.mem_singleton.2 rfl))]
  · rw [h _ (by simp)]
  · rw [h _ (by simp), h _ (List.mem_cons_of_mem _ (List.mem_singleton.2 rfl))]
  · rw [h _ (by simp), h _ (List.mem_cons_of_mem _ (List.mem_singleton.2 rfl))]
  · rw [h _ (List.mem_cons_self), h _ (List.mem_cons_of_mem _ List.mem_cons_self), h _ (List.mem_cons_of_mem _ (List.mem_cons_of_mem _ (List.mem_singleton.2 rfl)))]
  · rfl

theorem stepK_congr {P : Program} {op : Op} {s s' : Slots} {H : Heap} {K : AV → Heap → Prop} (h : ∀ x ∈ op.operands, ev s x = ev s' x) : stepK P op s H K = stepK P op s' H K := by
  cases op with
  | move x => simp only [stepK]; rw [h x (by simp [Op.operands])]
  | assign x => simp only [stepK]; rw [h x (by simp [Op.operands])]
  | pick c x y => simp only [stepK]; rw [h c (by simp [Op.operands]), h x (by simp [Op.operands]), h y (by simp [Op.operands])]
  | box t x => simp only [stepK]; rw [h x (by simp [Op.operands])]
  | alloc t => simp only [stepK]
  | load t x => simp only [stepK]; rw [h x (by simp [Op.operands])]
  | store t x v => simp only [stepK]; rw [h x (by simp [Op.operands]), h v (by simp [Op.operands])]
  | fieldAddr t x f => simp only [stepK]; rw [h x (by simp [Op.operands])]
  | indexAddr t x ix => simp only [stepK]; rw [h x (by simp [Op.operands]), h ix (by simp [Op.operands])]
  | index t x ix => simp only [stepK]; rw [h x (by simp [Op.operands]), h ix (by simp [Op.operands])]
  | binOp op t x y z => simp only [stepK]; rw [h x (by simp [Op.operands]), h y (by simp [Op.operands])]
  | unOp op t x => simp only [stepK]; rw [h x (by simp [Op.operands])]
  | convert a b x => simp only [stepK]; rw [h x (by simp [Op.operands])]
  | nilCheck x => simp only [stepK]; rw [h x (by simp [Op.operands])]
  | field t x f => simp only [stepK]; rw [h x (by simp [Op.operands])]
  | extract x i => simp only [stepK]; rw [h x (by simp [Op.operands])]
  | makeFunc fn first caps =>
    simp only [stepK]
    rw [map_congr_ev (s := s) (s' := s') fun x hx => h x (by simp [Op.operands]; exact .inr (by simpa using hx))]
  | build t parts =>
    simp only [stepK]
    have : (parts.toList.map fun p => (p.1, ev s p.2)) = parts.toList.map fun p => (p.1, ev s' p.2) := List.map_congr_left fun p hp => by
      rw [h p.2 (by simp [Op.operands]; exact ⟨p.1, by simpa using hp⟩)]
    rw [this]
  | buildSlice t len parts =>
    simp only [stepK]
    have : (parts.toList.map fun p => (p.1, ev s p.2)) = parts.toList.map fun p => (p.1, ev s' p.2) := List.map_congr_left fun p hp => by
      rw [h p.2 (by simp [Op.operands]; exact ⟨p.1, by simpa using hp⟩)]
    rw [this]
  | makeSlice t l c => simp only [stepK]; rw [h l (by simp [Op.operands]), h c (by simp [Op.operands])]
  | slice t x lo hi mx =>
    have hx : ev s x = ev s' x := h x (by simp [Op.operands])
    have hlo : ∀ d, bnd s lo d = bnd s' lo d := fun d => bnd_congr fun y hy => h y (by subst hy; simp [Op.operands])
    have hhi : ∀ d, bnd s hi d = bnd s' hi d := fun d => bnd_congr fun y hy => h y (by subst hy; simp [Op.operands])
    have hh : ∀ y, hi = some y → ev s y = ev s' y := fun y hy => h y (by subst hy; simp [Op.operands])
    have hm : ∀ y, mx = some y → ev s y = ev s' y := fun y hy => h y (by subst hy; simp [Op.operands])
    simp only [stepK, sliceK, hx, hlo, hhi]
    cases mx with
    | none => cases lo <;> cases hi <;> first | rfl | simp only [hhi]
    | some m =>
      have hm' := hm m rfl
      cases lo with
      | some l =>
        have hl := h l (by simp [Op.operands])
        cases hi with
        | none => rfl
        | some a =>
          have hh' := hh a rfl
          simp only [hm', hh', hl]
      | none =>
        cases hi with
        | none => rfl
        | some a =>
          have hh' := hh a rfl
          simp only [hm', hh']
  | call c =>
    have ha : ∀ x ∈ c.args.toList, ev s x = ev s' x := fun x hx => h x (by simp [Op.operands, Call.operands]; exact .inr (by simpa using hx))
    simp only [stepK]
    cases hc : c.callee with
    | value x =>
      simp only
      rw [h x (by simp [Op.operands, Call.operands, hc]), map_congr_ev ha]
    | builtin b => simp only; rw [builtinK_congr ha]
    | invoke r m => rfl
  | _ => rfl

theorem ev_putS {s : Slots} {d : Option Tmp} {v : AV} {x : Operand} (h : ∀ t, d = some t → x ≠ .tmp t) : ev (putS s d v) x = ev s x := by
  cases d with
  | none => rfl
  | some t =>
    cases x with
    | tmp i =>
      have hne : t ≠ i := fun e => h t rfl (by rw [e])
      simp only [putS, ev, List.getD_eq_getElem?_getD, List.getElem?_set_ne hne]
    | _ => rfl

theorem putS_comm (s : Slots) {d e : Option Tmp} (v u : AV) (h : ∀ t, d = some t → e ≠ some t) : putS (putS s d v) e u = putS (putS s e u) d v := by
  cases d with
  | none => rfl
  | some t =>
    cases e with
    | none => rfl
    | some t' =>
      have : t ≠ t' := fun e => h t rfl (by rw [e])
      simp only [putS, List.set_comm _ _ this]

/-- Is operation o wanted? -/
def wantA (ops : List Oper) (o : Oper) (s : Slots) : Option Bool := match o.guard with
  | none => some true
  | some (j, want) => match gslot ops j with
    | some d => match s.getD d .any with
      | .r (.lit (.bool b)) => some (b == want)
      | .r (.lit (.tuple _)) => some false
      | _ => none
    | none => none

section
variable {P : Program} {ops : Array Oper} {md : Region.Mode} {G : Heap → Prop}

theorem gslot_eq (ops : Array Oper) (j : Nat) : gslot ops.toList j = (ops[j]?).bind (·.dst) := by
  unfold gslot
  rw [Array.getElem?_toList]
  cases ops[j]? <;> rfl

theorem wantA_put (o : Oper) (s : Slots) (d : Option Tmp) (v : AV) (h : ∀ t, d = some t → t ∉ o.looksAt ops) : wantA ops.toList o (putS s d v) = wantA ops.toList o s := by
  unfold wantA
  cases hg : o.guard with
  | none => rfl
  | some gw =>
    obtain ⟨j, want⟩ := gw
    simp only
    cases hj : gslot ops.toList j with
    | none => rfl
    | some e =>
      simp only
      have hne : ev (putS s d v) (.tmp e) = ev s (.tmp e) := ev_putS fun t ht hx => by
        refine h t ht ?_
        simp only [Operand.tmp.injEq] at hx
        subst hx
        unfold Oper.looksAt
        rw [hg]
        refine List.mem_append_right _ ?_
        rw [gslot_eq] at hj
        simp [hj]
      simp only [ev] at hne
      rw [hne]

/-- A step of operation o, what follows weaker than what the reckoning shows. -/
def S1 (P : Program) (o : Oper) (s : Slots) (H : Heap) (K : AV → Heap → Prop) : Prop := ∃ K0 : AV → Heap → Prop, stepK P o.op s H K0 ∧ ∀ v H', K0 v H' → K v H'

theorem S1.mono {o : Oper} {s : Slots} {H : Heap} {K K' : AV → Heap → Prop} (h : S1 P o s H K) (hk : ∀ v H', K v H' → K' v H') : S1 P o s H K' :=
  let ⟨K0, h1, h2⟩ := h
  ⟨K0, h1, fun v H' hv => hk v H' (h2 v H' hv)⟩

theorem S1.opA {o : Oper} {s : Slots} {H : Heap} {K : AV → Heap → Prop} (h : S1 P o s H K) : OpA P o s H K :=
  let ⟨_, h1, h2⟩ := h
  (stepK_sound h1).mono h2

theorem S1.put {o : Oper} {s : Slots} {H : Heap} {K : AV → Heap → Prop} {d : Option Tmp} {v : AV} (h : ∀ t, d = some t → t ∉ o.looksAt ops) : S1 P o (putS s d v) H K ↔ S1 P o s H K := by
  have : ∀ K0, stepK P o.op (putS s d v) H K0 = stepK P o.op s H K0 := fun K0 => stepK_congr fun x hx => ev_putS fun t ht hxt => by
    refine h t ht ?_
    subst hxt
    exact List.mem_append_left _ (List.mem_filterMap.2 ⟨.tmp t, by simpa using hx, rfl⟩)
  unfold S1
  simp only [this]

/-- Operation number i comes up. -/
def opD (P : Program) (ops : Array Oper) (G : Heap → Prop) (i : Nat) (K : Slots → Heap → Prop) (s : Slots) (H : Heap) : Prop :=
  match ops[i]? with
  | none => K s H
  | some o => match wantA ops.toList o s with
    | some true => S1 P o s H fun v H' => G H' ∧ K (putS s o.dst v) H'
    | some false => K (putS s o.dst (.lit undef)) H
    | none => False

theorem opD_mono {i : Nat} {K K' : Slots → Heap → Prop} {s : Slots} {H : Heap} (hG : G H) (h : ∀ s H, G H → K s H → K' s H) (hh : opD P ops G i K s H) : opD P ops G i K' s H := by
  unfold opD at *
  split
  · rename_i ho; simp only [ho] at hh; exact h _ _ hG hh
  · rename_i o ho
    simp only [ho] at hh
    split
    · rename_i hw; simp only [hw] at hh; exact hh.mono fun v H' ⟨h1, h2⟩ => ⟨h1, h _ _ h1 h2⟩
    · rename_i hw; simp only [hw] at hh; exact h _ _ hG hh
    · rename_i hw; simp only [hw] at hh

/-- Whatever order is picked from here on. -/
def anyD (P : Program) (md : Region.Mode) (ops : Array Oper) (G : Heap → Prop) (Q : Slots → Heap → Prop) : Nat → Array Bool → Slots → Heap → Prop
  | 0, listed, s, H => Region.ready md ops listed = [] ∧ Q s H
  | fuel + 1, listed, s, H =>
    (Region.ready md ops listed = [] → Q s H) ∧
    ∀ i ∈ Region.ready md ops listed, opD P ops G i (anyD P md ops G Q fuel (listed.setIfInBounds i true)) s H

theorem wanted_of_wantA {γ : Gh} {w : World} {s : Slots} {a : Act} (hr : SRel γ w s a) {o : Oper} {b : Bool} (h : wantA ops.toList o s = some b) : Region.wanted o (yielded ops a.tmps) = b := by
  unfold wantA at h
  unfold Region.wanted
  split at h
  · rename_i hg; rw [hg]; exact Option.some.inj h
  · rename_i j want hg
    rw [hg]
    split at h
    · rename_i d hd
      split at h
      · rename_i c hc
        have := yielded_slot hr hd hc
        simp only [this]
        simp only [Option.some.injEq] at h
        rw [← h]
        cases c <;> cases want <;> rfl
      · rename_i vs hc
        have := yielded_none hr hd hc
        simp only [this]
        simp only [Option.some.injEq] at h
        rw [← h]
        cases want <;> rfl
      · cases h
    · cases h

theorem anyD_sound {p : Nat} {Q : Slots → Heap → Prop} {Q' : Exit → Act → World → Prop} : ∀ (fuel : Nat) (listed : Array Bool) (s : Slots) (H : Heap), anyD P md ops G Q fuel listed s H →
    ∀ γ a w, Sat γ w H → SRel γ w s a → p ≤ H.length →
    (∀ γ' a' w' s' H', Q s' H' → H.length ≤ H'.length → Evo H.length γ H w γ' H' w' → Sat γ' w' H' → SRel γ' w' s' a' → Q' .normal a' w') →
    wpAny P md ops Q' fuel listed a w
  | 0, listed, s, H, h, γ, a, w, hs, hr, hp, hQ => ⟨h.1, hQ γ a w s H h.2 (Nat.le_refl _) (.refl _ _ _ _) hs hr⟩
  | fuel + 1, listed, s, H, h, γ, a, w, hs, hr, hp, hQ => by
    refine ⟨fun h0 => hQ γ a w s H (h.1 h0) (Nat.le_refl _) (.refl _ _ _ _) hs hr, fun i hi => ?_⟩
    have h1 := h.2 i hi
    unfold opD at h1
    unfold wpOp
    split at h1
    · rename_i ho
      simp only [ho]
      exact anyD_sound fuel _ s H h1 γ a w hs hr hp hQ
    · rename_i o ho
      simp only [ho]
      split at h1
      · rename_i hw
        rw [if_pos (wanted_of_wantA hr hw)]
        refine .inl (h1.opA γ a w hs hr _ _ fun γ' u v H' w' hk hlen ev hs' hv => ?_)
        refine anyD_sound fuel _ (putS s o.dst v) H' hk.2 γ' _ w' hs' ((hr.evo hs hs' hlen ev).put hv _) (Nat.le_trans hp hlen) fun γ'' a'' w'' s'' H'' q hl'' ev' hs'' hr'' => ?_
        exact hQ γ'' a'' w'' s'' H'' q (Nat.le_trans hlen hl'') (ev.trans ⟨fun id hid => ev'.ρ id (Nat.lt_of_lt_of_le hid hlen), ev'.R, ev'.R', ev'.L, ev'.os, ev'.tape, ev'.output, ev'.size, ev'.keep⟩) hs'' hr''
      · rename_i hw
        rw [if_neg (by rw [wanted_of_wantA hr hw]; simp)]
        exact anyD_sound fuel _ (putS s o.dst (.lit undef)) H h1 γ _ w hs (hr.put (.r (.lit _)) _) hp hQ
      · exact h1.elim

/-- Operation o yields v, whatever the heap (of the class), and leaves it. -/
def YieldsD (P : Program) (ops : Array Oper) (G : Heap → Prop) (o : Oper) (v : AV) (s : Slots) : Prop :=
  (wantA ops.toList o s = some true ∧ ∀ H, G H → S1 P o s H fun v' H' => v' = v ∧ H' = H) ∨ (wantA ops.toList o s = some false ∧ v = .lit undef)

theorem YieldsD.opD {i : Nat} {o : Oper} {v : AV} {s : Slots} {H : Heap} (hG : G H) (hi : ops[i]? = some o) (hy : YieldsD P ops G o v s) {K : Slots → Heap → Prop} (h : K (putS s o.dst v) H) : opD P ops G i K s H := by
  unfold Ae.opD
  simp only [hi]
  rcases hy with ⟨hw, hv⟩ | ⟨hw, rfl⟩
  · simp only [hw]
    exact (hv H hG).mono fun v' H' ⟨e1, e2⟩ => by subst e1 e2; exact ⟨hG, h⟩
  · simp only [hw]; exact h

theorem opD_put {j : Nat} {oi oj : Oper} {v : AV} (hj : ops[j]? = some oj) (hap : oi.apart ops oj = true) {K : Slots → Heap → Prop} {s : Slots} {H : Heap}
    (hy : YieldsD P ops G oi v s) (h : opD P ops G j K (putS s oi.dst v) H) :
    opD P ops G j (fun s' H' => YieldsD P ops G oi v s' ∧ K (putS s' oi.dst v) H') s H := by
  obtain ⟨h1, h2, h3⟩ := Oper.apart_spec hap
  have keep : ∀ u, YieldsD P ops G oi v (putS s oj.dst u) := fun u => by
    rcases hy with ⟨hw, hv⟩ | ⟨hw, rfl⟩
    · exact .inl ⟨by rw [wantA_put oi s _ _ h3]; exact hw, fun H hH => (S1.put h3).2 (hv H hH)⟩
    · exact .inr ⟨by rw [wantA_put oi s _ _ h3]; exact hw, rfl⟩
  unfold Ae.opD at *
  simp only [hj] at *
  rw [wantA_put oj s _ _ h1] at h
  split
  · rename_i hw
    simp only [hw] at h
    exact ((S1.put h1).1 h).mono fun u H' ⟨g1, g2⟩ => ⟨g1, keep u, by rw [← putS_comm s v u h2]; exact g2⟩
  · rename_i hw
    simp only [hw] at h
    exact ⟨keep _, by rw [← putS_comm s v (.lit undef) h2]; exact h⟩
  · rename_i hw; simp only [hw] at h

theorem anyD_first {Q : Slots → Heap → Prop} {i : Nat} {oi : Oper} {v : AV} (hi : ops[i]? = some oi) :
    ∀ (fuel : Nat) (listed : Array Bool) (s : Slots) (H : Heap), G H →
      (∀ j oj, ops[j]? = some oj → j ≠ i → listed.getD j true = false → (∀ e ∈ oj.after, Region.binds md e = true → e.on ≠ i) → oi.apart ops oj = true) →
      i ∈ Region.ready md ops listed → YieldsD P ops G oi v s →
      anyD P md ops G Q fuel (listed.setIfInBounds i true) (putS s oi.dst v) H → anyD P md ops G Q (fuel + 1) listed s H := by
  intro fuel
  induction fuel with
  | zero =>
    intro listed s H hG _ hr hy hH
    refine ⟨fun h => (by rw [h] at hr; cases hr), fun j hj => ?_⟩
    by_cases hji : j = i
    · subst hji; exact hy.opD hG hi hH
    · have := ready_mono hj hji
      rw [hH.1] at this
      cases this
  | succ fuel ih =>
    intro listed s H hG hfree hr hy hH
    refine ⟨fun h => (by rw [h] at hr; cases hr), fun j hj => ?_⟩
    by_cases hji : j = i
    · subst hji; exact hy.opD hG hi hH
    · have h1 := hH.2 j (ready_mono hj hji)
      obtain ⟨hjun, oj, hoj, hall⟩ := mem_ready.1 hj
      have hnot : ∀ e ∈ oj.after, Region.binds md e = true → e.on ≠ i := fun e he hb heq => by
        have h1 := hall e he hb
        have h0 := (mem_ready.1 hr).1
        rw [heq] at h1
        rcases Nat.lt_or_ge i listed.size with h' | h'
        · simp [h'] at h0 h1; rw [h0] at h1; cases h1
        · simp [Array.getElem?_eq_none h'] at h1
      have h2 := opD_put hoj (hfree j oj hoj hji hjun hnot) hy h1
      have hfree' : ∀ k ok, ops[k]? = some ok → k ≠ i → (listed.setIfInBounds j true).getD k true = false →
          (∀ e ∈ ok.after, Region.binds md e = true → e.on ≠ i) → oi.apart ops ok = true := fun k ok hk hki hun hno => by
        refine hfree k ok hk hki ?_ hno
        by_cases hjk : j = k
        · subst hjk; exact hjun
        · rw [getD_set_ne true hjk] at hun; exact hun
      refine opD_mono hG (fun s' H' hG' h3 => ih (listed.setIfInBounds j true) s' H' hG' hfree' (ready_mono hr (Ne.symm hji)) h3.1 ?_) h2
      rw [Array.setIfInBounds_comm _ _ hji]
      exact h3.2

/-- The walk: 'true': an operation that may be taken first; 'false': the only one that is ready. -/
def walkD (P : Program) (ops : Array Oper) (G : Heap → Prop) (Q : Slots → Heap → Prop) : List (Nat × Bool) → Slots → Heap → Prop
  | [], s, H => Q s H
  | (i, light) :: rest, s, H => match ops[i]? with
    | none => False
    | some o => match light with
      | true => ∃ v, YieldsD P ops G o v s ∧ walkD P ops G Q rest (putS s o.dst v) H
      | false => opD P ops G i (walkD P ops G Q rest) s H

/-- The order serves. -/
def orderB (md : Region.Mode) (ops : Array Oper) : List (Nat × Bool) → Array Bool → Bool
  | [], listed => (Region.ready md ops listed).isEmpty
  | (i, light) :: rest, listed => (Region.ready md ops listed).contains i && (if light then Region.free md ops listed i else Region.ready md ops listed == [i]) && orderB md ops rest (listed.setIfInBounds i true)

theorem anyD_walk {Q : Slots → Heap → Prop} : ∀ (l : List (Nat × Bool)) (listed : Array Bool) (s : Slots) (H : Heap), G H → orderB md ops l listed = true → walkD P ops G Q l s H → anyD P md ops G Q l.length listed s H
  | [], listed, s, H, hG, hB, h => ⟨by simpa [orderB] using hB, h⟩
  | (i, light) :: rest, listed, s, H, hG, hB, h => by
    simp only [orderB, Bool.and_eq_true] at hB
    obtain ⟨⟨hr, hf⟩, hB'⟩ := hB
    have hr' : i ∈ Region.ready md ops listed := by simpa using hr
    unfold walkD at h
    split at h
    · exact h.elim
    · rename_i o ho
      cases light with
      | true =>
        simp only [if_true] at hf
        obtain ⟨v, hy, hK⟩ := h
        exact anyD_first ho rest.length listed s H hG (Region.free_spec ho hf) hr' hy (anyD_walk rest _ _ H hG hB' hK)
      | false =>
        simp only [Bool.false_eq_true, if_false, beq_iff_eq] at hf
        refine ⟨fun h0 => (by rw [h0] at hr'; cases hr'), fun j hj => ?_⟩
        rw [hf] at hj
        obtain rfl := List.mem_singleton.1 hj
        exact opD_mono hG (fun s' H' hG' h' => anyD_walk rest _ s' H' hG' hB' h') h
end

theorem Tri0.draw {P : Program} {p : Nat} {id : Nat} {ops : Array Oper} {s : Slots} {H : Heap} {Q : Exit → Slots → Heap → Prop} (hm : P.follows .mixedOrders = true) {G : Heap → Prop} (hG : G H) {l : List (Nat × Bool)}
    (hl : l.length = ops.size) (hB : orderB .any ops l (Array.replicate ops.size false) = true) (h : walkD P ops G (fun s' H' => Q .normal s' H') l s H) : Tri0 P p (.region id ops true) s H Q := by
  intro γ a w hp hs hr
  refine wp_region_any hm ?_
  have h1 := anyD_walk (md := .any) l _ s H hG hB h
  rw [hl] at h1
  have hs' : Sat γ { w with drawn := w.drawn + 1 } H := ⟨hs.n, fun id b hb => by
    have := hs.blk id b hb
    cases hid : γ.ρ id with
    | none => rw [hid] at this; exact this
    | some x =>
      rw [hid] at this
      obtain ⟨vs, t, g1, g2, g3⟩ := this
      exact ⟨vs, t, g1, g2, BRel.mono (γ := γ) (γ' := γ) (w := w) (w' := { w with drawn := w.drawn + 1 }) (Nat.le_refl _) (fun _ _ => ⟨rfl, rfl⟩) (fun _ h => h) (fun _ _ => rfl) g3⟩, hs.inj, fun x hx => hs.rd x hx⟩
  have hr' : SRel γ { w with drawn := w.drawn + 1 } s a := hr.mono (γ := γ) (γ' := γ) (Nat.le_refl _) (fun _ _ => ⟨rfl, rfl⟩) (fun _ h => h) (fun _ _ => rfl)
  refine anyD_sound (p := p) ops.size _ s H h1 γ a _ hs' hr' hp fun γ' a' w' s' H' q hl ev hs'' hr'' => ?_
  exact ⟨γ', s', H', q, Nat.le_trans hp hl, ⟨fun id hid => ev.ρ id (Nat.lt_of_lt_of_le hid hp), ev.R, ev.R', ev.L, ev.os, ev.tape, ev.output, ev.size, ev.keep⟩, hs'', hr''⟩
end Go.Ae
end
section
namespace Go.Ae
set_option linter.unusedVariables false
set_option linter.unusedSimpArgs false

/-- A call that gives one value, whatever the heap, and leaves it. -/
structure CallL (P : Program) (f : FuncId) (args : List AV) (K : AV → Prop) : Prop where
  run : ∃ v, (∀ H, CallA P f args H fun v' H' => v' = v ∧ H' = H) ∧ K v

theorem CallL.gives {P : Program} {f : FuncId} {args : List AV} {K : AV → Prop} {V : AV} (h : Gives P f args V) (hfree : LSub [] (fun _ => False) (fun _ => none) 0 args args) (hK : K V) : CallL P f args K :=
  ⟨V, fun _ => CallA.gives h hfree ⟨rfl, by trivial⟩, hK⟩

/-- Operations that do not look at the heap. -/
def lightOp : Op → Bool
  | .move _ | .assign _ | .pick .. | .fieldAddr .. | .indexAddr .. | .index .. | .binOp .. | .unOp .. | .nilCheck _ | .extract .. | .field .. | .convert .. | .build .. => true
  | .slice _ _ _ _ none => true
  | .call c => match c.callee with
    | .value _ => true
    | .builtin .len | .builtin .min | .builtin .max => true
    | _ => false
  | _ => false

def quietOp : Op → Bool
  | .load .. => true
  | _ => false

def lightK (P : Program) (o : Op) (s : Slots) (H : Heap) (K : AV → Heap → Prop) : Prop :=
  match o with
  | .call c => match c.callee with
    | .value x => match ev s x with
      | .fn f caps => hasBody P f = true ∧ CallL P f (c.args.toList.map (ev s) ++ caps) (fun v => K v H)
      | _ => False
    | .builtin b => builtinK P b c.args.toList c.argTypes.toList s H K
    | _ => False
  | .binOp op t x y _ => binL P op t (ev s x) (ev s y) H K
  | .slice t x lo hi mx => noUp (ev s x) lo hi ∧ stepK P (.slice t x lo hi mx) s H K
  | .convert src dst x => match tyOf P src, tyOf P dst with
    | some _, some y => convI y (ev s x) H K
    | _, _ => False
  | o => stepK P o s H K

theorem builtinK_light {P : Program} {b : Builtin} {args : List Operand} {ts : List TypeId} {s : Slots} {H : Heap} {K : AV → Heap → Prop} (hb : b = .len ∨ b = .min ∨ b = .max) (h : builtinK P b args ts s H K) :
    ∃ v, (∀ H', builtinK P b args ts s H' fun v' H'' => v' = v ∧ H'' = H') ∧ K v H := by
  rcases hb with rfl | rfl | rfl
  · unfold builtinK at h ⊢
    split at h
    · rename_i h1 h2
      split at h
      · rename_i y ht
        unfold lenK at h ⊢
        simp only [ht]
        generalize ev s _ = v at h ⊢
        split at h
        all_goals first
          | exact ⟨_, fun H' => ⟨h.1, rfl, by trivial⟩, h.2⟩
          | exact h.elim
      · exact h.elim
    all_goals first | exact h.elim | (rename_i h1; cases h1) | contradiction
  · unfold builtinK at h ⊢
    split at h
    all_goals first | exact h.elim | contradiction | skip
    rename_i x y _
    try simp only
    generalize ev s x = u at h ⊢
    generalize ev s y = v at h ⊢
    split at h
    · exact ⟨_, fun H' => ⟨rfl, by trivial⟩, h⟩
    · exact h.elim
  · unfold builtinK at h ⊢
    split at h
    all_goals first | exact h.elim | contradiction | skip
    · rename_i x y _
      try simp only
      generalize ev s x = u at h ⊢
      generalize ev s y = v at h ⊢
      split at h
      · exact ⟨_, fun H' => ⟨rfl, by trivial⟩, h⟩
      · exact h.elim
    · rename_i x y z _
      try simp only
      generalize ev s x = u at h ⊢
      generalize ev s y = v at h ⊢
      generalize ev s z = t at h ⊢
      split at h
      · exact ⟨_, fun H' => ⟨rfl, by trivial⟩, h⟩
      · exact h.elim

theorem lightK_sound {P : Program} {op : Op} {s : Slots} {H : Heap} {K : AV → Heap → Prop} (hl : lightOp op = true) (h : lightK P op s H K) :
    ∃ v, (∀ H', stepK P op s H' fun v' H'' => v' = v ∧ H'' = H') ∧ K v H := by
  cases op with
  | move x => exact ⟨_, fun H' => ⟨rfl, by trivial⟩, h⟩
  | assign x => exact ⟨_, fun H' => ⟨rfl, by trivial⟩, h⟩
  | pick c x y =>
    simp only [lightK, stepK] at h ⊢
    generalize ev s c = vc at h ⊢
    split at h
    · exact ⟨_, fun H' => ⟨rfl, by trivial⟩, h⟩
    · exact h.elim
  | fieldAddr t x f =>
    simp only [lightK, stepK] at h ⊢
    generalize tyOf P t = yt at h ⊢
    cases yt with
    | none => exact h.elim
    | some y =>
      simp only at h ⊢
      generalize y.offs[f]? = w at h ⊢
      split at h
      · generalize ev s x = vx at h ⊢
        split at h
        · exact ⟨_, fun H' => ⟨rfl, by trivial⟩, h⟩
        · exact ⟨_, fun H' => ⟨rfl, by trivial⟩, h⟩
        · exact h.elim
      · exact h.elim
  | indexAddr t x ix =>
    simp only [lightK, stepK] at h ⊢
    generalize elemTy P t = yt at h ⊢
    generalize ev s ix = vi at h ⊢
    split at h
    · simp only [addrK] at h ⊢
      generalize ev s x = vx at h ⊢
      split at h
      · exact ⟨_, fun H' => ⟨h.1, h.2.1, rfl, by trivial⟩, h.2.2⟩
      · exact ⟨_, fun H' => ⟨h.1, h.2.1, rfl, by trivial⟩, h.2.2⟩
      · exact ⟨_, fun H' => ⟨h.1, h.2.1, rfl, by trivial⟩, h.2.2⟩
      · exact h.elim
    · exact h.elim
  | index t x ix =>
    simp only [lightK, stepK] at h ⊢
    generalize tyOf P t = yt at h ⊢
    generalize ev s ix = vi at h ⊢
    generalize ev s x = vx at h ⊢
    split at h
    · exact ⟨_, fun H' => ⟨h.1, h.2.1, rfl, by trivial⟩, h.2.2⟩
    · exact h.elim
  | binOp op t x y z =>
    have go : ∃ v, (∀ H', binL P op t (ev s x) (ev s y) H' fun v' H'' => v' = v ∧ H'' = H') ∧ K v H := by
      simp only [lightK, binL] at h ⊢
      generalize ev s x = vx at h ⊢
      generalize ev s y = vy at h ⊢
      split at h
      · exact ⟨_, fun H' => ⟨h.1, rfl, by trivial⟩, h.2⟩
      · obtain ⟨h1, h⟩ := h
        split at h
        · exact ⟨_, fun H' => ⟨h1, rfl, by trivial⟩, h⟩
        · exact ⟨_, fun H' => ⟨h1, rfl, by trivial⟩, h⟩
        · exact h.elim
      · rename_i a b
        try simp only
        generalize strBin op a b = r at h ⊢
        split at h
        · exact ⟨_, fun H' => ⟨h.1, rfl, by trivial⟩, h.2⟩
        · exact h.elim
      · rename_i cs ds
        simp only [aggK] at h ⊢
        generalize flatKinds P t = fk at h ⊢
        cases fk with
        | none => exact h.elim
        | some ks =>
          simp only at h ⊢
          generalize aggEq ks cs ds = ae at h ⊢
          cases ae with
          | none => exact h.elim
          | some r =>
            simp only at h ⊢
            cases op <;> first | exact h.elim | exact ⟨_, fun H' => ⟨rfl, by trivial⟩, h⟩
      · exact h.elim
    obtain ⟨v, h1, h2⟩ := go
    exact ⟨v, fun H' => by simp only [stepK]; exact binL_binK (h1 H'), h2⟩
  | unOp op t x =>
    simp only [lightK, stepK, unK] at h ⊢
    generalize ev s x = vx at h ⊢
    split at h
    · exact ⟨_, fun H' => ⟨rfl, by trivial⟩, h⟩
    · exact ⟨_, fun H' => ⟨rfl, by trivial⟩, h⟩
    · exact h.elim
  | convert a b x =>
    simp only [lightK, stepK, convK] at h ⊢
    generalize tyOf P a = ya at h ⊢
    generalize tyOf P b = yb at h ⊢
    generalize ev s x = vx at h ⊢
    cases ya with
    | none => exact h.elim
    | some ya =>
      cases yb with
      | none => exact h.elim
      | some y =>
        simp only [convI] at h ⊢
        split at h
        · try simp only
          generalize y.int = q at h ⊢
          cases q with
          | none => exact h.elim
          | some k => exact ⟨_, fun H' => ⟨rfl, by trivial⟩, h⟩
        · exact h.elim
  | build t parts =>
    simp only [lightK, stepK] at h ⊢
    generalize tyOf P t = yt at h ⊢
    cases yt with
    | none => exact h.elim
    | some y =>
      simp only at h ⊢
      obtain ⟨h1, h2⟩ := h
      revert h2
      generalize fillA _ _ _ = q
      intro h2
      cases q with
      | none => exact h2.elim
      | some out => exact ⟨_, fun H' => ⟨h1, rfl, by trivial⟩, h2⟩
  | nilCheck x =>
    simp only [lightK, stepK, nilK] at h ⊢
    generalize ev s x = vx at h ⊢
    split at h
    · exact ⟨_, fun H' => ⟨rfl, by trivial⟩, h⟩
    · exact ⟨_, fun H' => ⟨rfl, by trivial⟩, h⟩
    · exact ⟨_, fun H' => ⟨rfl, by trivial⟩, h⟩
    · exact h.elim
  | field t x f =>
    simp only [lightK, stepK] at h ⊢
    generalize fieldTy P t f = q1 at h ⊢
    generalize ev s x = vx at h ⊢
    split at h
    · rename_i off sz ag cs
      try simp only
      generalize fieldV cs off sz ag = q at h ⊢
      split at h
      · exact ⟨_, fun H' => ⟨rfl, by trivial⟩, h⟩
      · exact h.elim
    · exact h.elim
  | extract x i =>
    simp only [lightK, stepK] at h ⊢
    generalize ev s x = vx at h ⊢
    split at h
    · rename_i vs
      try simp only
      generalize vs[i]? = q at h ⊢
      split at h
      · exact ⟨_, fun H' => ⟨rfl, by trivial⟩, h⟩
      · exact h.elim
    · exact h.elim
  | call c =>
    simp only [lightK, stepK] at h ⊢
    cases hc : c.callee with
    | value x =>
      rw [hc] at h
      simp only at h ⊢
      generalize ev s x = vx at h ⊢
      split at h
      · obtain ⟨h1, ⟨v, h2, h3⟩⟩ := h
        exact ⟨v, fun H' => by simp only [h1]; exact h2 H', h3⟩
      · exact h.elim
    | builtin b =>
      rw [hc] at h
      simp only at h ⊢
      refine builtinK_light ?_ h
      simp only [lightOp, hc] at hl
      cases b <;> simp at hl ⊢
    | invoke r m => rw [hc] at h; exact h.elim
  | slice t x lo hi mx =>
    cases mx with
    | some m => simp [lightOp] at hl
    | none =>
      simp only [lightK, stepK] at h ⊢
      obtain ⟨hn, h⟩ := h
      generalize elemTy P t = yt at h ⊢
      generalize ev s x = vx at h hn ⊢
      split at h
      · rename_i b
        generalize tyOf P t = yt at h ⊢
        split at h
        · exact ⟨_, fun H' => ⟨h.1, h.2.1, rfl, by trivial⟩, h.2.2⟩
        · exact h.elim
      · rename_i v hv
        cases yt with
        | none => exact h.elim
        | some z =>
          simp only at h ⊢
          unfold sliceK at h ⊢
          split at h
          · simp only at h ⊢
            cases lo with
            | none => cases hi with
              | some o => exact hn.elim
              | none =>
                simp only at h ⊢
                split at h
                · exact ⟨_, fun H' => ⟨h.1, h.2.1, rfl, by trivial⟩, h.2.2⟩
                · exact h.elim
            | some l =>
              simp only at h ⊢
              split at h
              · exact ⟨_, fun H' => ⟨h.1, h.2.1, rfl, by trivial⟩, h.2.2⟩
              · exact h.elim
          · simp only at h ⊢
            split at h
            · split at h
              · exact ⟨_, fun H' => ⟨h.1, h.2.1, rfl, by trivial⟩, h.2.2⟩
              · exact h.elim
            · split at h
              · exact ⟨_, fun H' => ⟨h.1, h.2.1, rfl, by trivial⟩, h.2.2⟩
              · exact h.elim
          · simp only at h ⊢
            split at h
            · exact ⟨_, fun H' => ⟨h.1, h.2.1, rfl, by trivial⟩, h.2.2⟩
            · exact h.elim
          · exact h.elim
  | _ => simp [lightOp] at hl

theorem quietK_sound {P : Program} {op : Op} {s : Slots} {H : Heap} {K : AV → Heap → Prop} (hl : quietOp op = true) (h : lightK P op s H K) :
    ∃ v, stepK P op s H (fun v' H'' => v' = v ∧ H'' = H) ∧ K v H := by
  cases op with
  | load t x =>
    simp only [lightK, stepK, loadK] at h ⊢
    generalize tyOf P t = yt at h ⊢
    cases yt with
    | none => exact h.elim
    | some y =>
      simp only at h ⊢
      generalize ev s x = vx at h ⊢
      split at h
      · rename_i id k i f
        try simp only
        generalize H.at id = b at h ⊢
        split at h
        · exact ⟨_, ⟨h.1, rfl, by trivial⟩, h.2⟩
        · exact ⟨_, ⟨h.1, rfl, by trivial⟩, h.2⟩
        · exact ⟨_, ⟨h.1, rfl, by trivial⟩, h.2⟩
        · exact h.elim
      · exact ⟨_, ⟨h.1, rfl, by trivial⟩, h.2⟩
      · exact h.elim
  | _ => simp [quietOp] at hl

def kindB (q : Bool) (op : Op) (light : Bool) : Bool := if light then lightOp op || (q && quietOp op) else !q

def drawB (q : Bool) (ops : Array Oper) (l : List (Nat × Bool)) : Bool :=
  orderB .any ops l (Array.replicate ops.size false) && l.length == ops.size && l.all fun p => match ops[p.1]? with
    | some o => kindB q o.op p.2
    | none => false

def oneD (P : Program) (o : Op) (light : Bool) (s : Slots) (H : Heap) (K : AV → Heap → Prop) : Prop := match light with
  | true => lightK P o s H K
  | false => stepK P o s H K

/-- A region's operations in an order that serves every order. -/
def drawK (P : Program) (all : List Oper) : List (Nat × Bool) → Slots → Heap → (Slots → Heap → Prop) → Prop
  | [], s, H, K => K s H
  | (i, light) :: rest, s, H, K => match all[i]? with
    | none => False
    | some o => match o.guard with
      | none => oneD P o.op light s H (fun v H' => drawK P all rest (putS s o.dst v) H' K)
      | some (j, want) => match gslot all j with
        | some d => match s.getD d .any with
          | .r (.lit (.bool b)) =>
            guardK b want (oneD P o.op light (s.set d (.lit (.bool want))) H (fun v H' => drawK P all rest (putS (s.set d (.lit (.bool want))) o.dst v) H' K))
              (drawK P all rest (putS (s.set d (.lit (.bool !want))) o.dst (.lit undef)) H K)
          | .r (.lit (.tuple _)) => drawK P all rest (putS s o.dst (.lit undef)) H K
          | _ => False
        | none => False

theorem set_getD {s : Slots} {d : Nat} {v : AV} (h : s.getD d .any = v) (hv : v ≠ .any) : s.set d v = s := by
  have hlt : d < s.length := by
    rcases Nat.lt_or_ge d s.length with h1 | h1
    · exact h1
    · rw [List.getD_eq_getElem?_getD, List.getElem?_eq_none h1] at h; exact absurd h.symm hv
  rw [List.getD_eq_getElem?_getD, List.getElem?_eq_getElem hlt, Option.getD_some] at h
  rw [← h]
  exact List.set_getElem_self hlt

theorem drawK_sound {P : Program} {ops : Array Oper} {q : Bool} {H0 : Heap} {K : Slots → Heap → Prop} : ∀ (l : List (Nat × Bool)) (s : Slots) (H : Heap), (q = true → H = H0) →
    (l.all fun p => match ops[p.1]? with | some o => kindB q o.op p.2 | none => false) = true → drawK P ops.toList l s H K →
    walkD P ops (fun H => q = true → H = H0) K l s H
  | [], s, H, hG, hB, h => h
  | (i, light) :: rest, s, H, hG, hB, h => by
    simp only [List.all_cons, Bool.and_eq_true] at hB
    obtain ⟨hk, hB'⟩ := hB
    unfold drawK at h
    rw [Array.getElem?_toList] at h
    split at h
    · exact h.elim
    · rename_i o ho
      simp only [ho] at hk
      -- one operation that is carried out
      have one : wantA ops.toList o s = some true → oneD P o.op light s H (fun v H' => drawK P ops.toList rest (putS s o.dst v) H' K) →
          walkD P ops (fun H => q = true → H = H0) K ((i, light) :: rest) s H := by
        intro hw h1
        unfold walkD
        simp only [ho]
        cases light with
        | true =>
          simp only [oneD] at h1
          simp only [kindB, if_true, Bool.or_eq_true, Bool.and_eq_true] at hk
          rcases hk with hk | ⟨hq, hk⟩
          · obtain ⟨v, h2, h3⟩ := lightK_sound hk h1
            exact ⟨v, .inl ⟨hw, fun H' _ => ⟨_, h2 H', fun _ _ h => h⟩⟩, drawK_sound rest _ H hG hB' h3⟩
          · obtain ⟨v, h2, h3⟩ := quietK_sound hk h1
            refine ⟨v, .inl ⟨hw, fun H' hH' => ?_⟩, drawK_sound rest _ H hG hB' h3⟩
            have e1 := hH' hq
            have e2 := hG hq
            subst e1
            subst e2
            exact ⟨_, h2, fun _ _ h => h⟩
        | false =>
          simp only [oneD] at h1
          simp only [kindB, Bool.false_eq_true, if_false, Bool.not_eq_true'] at hk
          have hq : ∀ H : Heap, q = true → H = H0 := fun H h => by rw [hk] at h; cases h
          unfold opD
          simp only [ho, hw]
          exact ⟨_, h1, fun v H' h2 => ⟨hq H', drawK_sound rest _ H' (hq H') hB' h2⟩⟩
      have pass : wantA ops.toList o s = some false → drawK P ops.toList rest (putS s o.dst (.lit undef)) H K →
          walkD P ops (fun H => q = true → H = H0) K ((i, light) :: rest) s H := by
        intro hw h1
        unfold walkD
        simp only [ho]
        have h2 := drawK_sound rest _ H hG hB' h1
        cases light with
        | true => exact ⟨.lit undef, .inr ⟨hw, rfl⟩, h2⟩
        | false =>
          unfold opD
          simp only [ho, hw]
          exact h2
      split at h
      · rename_i hg
        exact one (by simp [wantA, hg]) h
      · rename_i j want hg
        split at h
        · rename_i d hd
          split at h
          · rename_i b hb
            by_cases hbw : b = want
            · have h1 := h.1 hbw
              subst hbw
              rw [set_getD hb (by simp)] at h1
              exact one (by unfold wantA; rw [hg]; simp only; rw [hd]; simp only; rw [hb]; simp) h1
            · have hbw' : b = !want := by cases b <;> cases want <;> simp_all
              have h1 := h.2 hbw'
              rw [← hbw', set_getD hb (by simp)] at h1
              exact pass (by unfold wantA; rw [hg]; simp only; rw [hd]; simp only; rw [hb]; simp [hbw]) h1
          · rename_i vs hb
            exact pass (by unfold wantA; rw [hg]; simp only; rw [hd]; simp only; rw [hb]) h
          · exact h.elim
        · exact h.elim

theorem Tri.drawSeq {P : Program} {p : Nat} {s : Slots} {H : Heap} {Q : Exit → Slots → Heap → Prop} {id : Nat} {ops : Array Oper} {y : Code} (hm : P.follows .mixedOrders = true) (q : Bool) (l : List (Nat × Bool)) (hB : drawB q ops l = true)
    (h : ∀ K : Slots → Heap → Prop, (∀ s' H', Tri P p y s' H' Q → K s' H') → drawK P ops.toList l s H K) : Tri P p (.seq (.region id ops true) y) s H Q := by
  simp only [drawB, Bool.and_eq_true, beq_iff_eq] at hB
  exact Tri.seq ⟨Tri0.draw hm (G := fun H' => q = true → H' = H) (fun _ => rfl) hB.1.2 hB.1.1 (drawK_sound l s H (fun _ => rfl) hB.2 (h _ fun _ _ h => h))⟩

theorem Tri.draw {P : Program} {p : Nat} {s : Slots} {H : Heap} {Q : Exit → Slots → Heap → Prop} {id : Nat} {ops : Array Oper} (hm : P.follows .mixedOrders = true) (q : Bool) (l : List (Nat × Bool)) (hB : drawB q ops l = true)
    (h : ∀ K : Slots → Heap → Prop, (∀ s' H', Q .normal s' H' → K s' H') → drawK P ops.toList l s H K) : Tri P p (.region id ops true) s H Q := by
  simp only [drawB, Bool.and_eq_true, beq_iff_eq] at hB
  exact ⟨Tri0.draw hm (G := fun H' => q = true → H' = H) (fun _ => rfl) hB.1.2 hB.1.1 (drawK_sound l s H (fun _ => rfl) hB.2 (h _ fun _ _ h => h))⟩
end Go.Ae
end
