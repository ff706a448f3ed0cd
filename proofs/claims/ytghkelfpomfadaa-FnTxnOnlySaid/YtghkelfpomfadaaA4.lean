/- The abstract logic, fifth part: calls that lend blocks, regions with one heavy operation, cuts. No condition beyond what each lemma states. -/
import Derived.Test.YtghkelfpomfadaaA5
set_option linter.unusedVariables false
set_option linter.unusedSimpArgs false
section
namespace Go.Ae
set_option linter.unusedVariables false
set_option linter.unusedSimpArgs false
/-! ### Numbers given anew -/
mutual
def rnV (σ : Nat → Nat) : AV → AV
  | .any => .any
  | .r x => .r x
  | .agg cs => .agg (rnL σ cs)
  | .tup cs => .tup (rnL σ cs)
  | .fn g cs => .fn g (rnL σ cs)
  | .ptr id k i f => .ptr (σ id) k i f
  | .sl id k off len => .sl (σ id) k off len
  | .slc id k off len c => .slc (σ id) k off len c
  | .mt => .mt
  | @AV.rp α inst k enc xs i f => .rp k enc xs i f
def rnL (σ : Nat → Nat) : List AV → List AV
  | [] => []
  | c :: cs => rnV σ c :: rnL σ cs
end
theorem rnL_eq (σ : Nat → Nat) : ∀ l : List AV, rnL σ l = l.map (rnV σ)
  | [] => by simp only [rnL, List.map_nil]
  | c :: cs => by simp only [rnL, List.map_cons, rnL_eq σ cs]
def Blk.rn (σ : Nat → Nat) : Blk → Blk
  | .cells l => .cells (rnL σ l)
  | @Blk.rows _ _ k enc xs => .rows k (fun x => rnL σ (enc x)) xs
  | .raw k l => .raw k (l.map (rnL σ))
theorem Blk.rn_k (σ : Nat → Nat) (b : Blk) : (b.rn σ).k = b.k := by
  cases b <;> simp [Blk.rn, Blk.k, rnL_eq]
theorem Blk.rn_L (σ : Nat → Nat) (b : Blk) : (b.rn σ).L = b.L.map (rnL σ) := by
  cases b <;> simp [Blk.rn, Blk.L, Function.comp_def]
theorem rn_rel {γ' γ2 : Gh} {w : World} {σ : Nat → Nat} (hn : ∀ id, id < γ'.n → σ id < γ2.n ∧ γ2.ρ (σ id) = γ'.ρ id ∧ γ2.m (σ id) = γ'.m id) (hR : ∀ x, γ'.R x → γ2.R x) {v : AV} {u : Value}
    (h : Rel γ' w v u) : Rel γ2 w (rnV σ v) u := by
  induction h with
  | any v => simp only [rnV]; exact .any _
  | r h => simp only [rnV]; exact .r (h.mono hR fun _ _ => rfl)
  | agg cs vs hl _ ih =>
    simp only [rnV, rnL_eq]
    refine .agg _ _ (by simp [hl]) fun i c v hc hv => ?_
    rw [List.getElem?_map, Option.map_eq_some_iff] at hc
    obtain ⟨c0, h0, rfl⟩ := hc
    exact ih i c0 v h0 hv
  | tup cs vs hl _ ih =>
    simp only [rnV, rnL_eq]
    refine .tup _ _ (by simp [hl]) fun i c v hc hv => ?_
    rw [List.getElem?_map, Option.map_eq_some_iff] at hc
    obtain ⟨c0, h0, rfl⟩ := hc
    exact ih i c0 v h0 hv
  | fn g cs vs hl _ ih =>
    simp only [rnV, rnL_eq]
    refine .fn _ _ _ (by simp [hl]) fun i c v hc hv => ?_
    rw [List.getElem?_map, Option.map_eq_some_iff] at hc
    obtain ⟨c0, h0, rfl⟩ := hc
    exact ih i c0 v h0 hv
  | ptr id k i f x h1 h =>
    simp only [rnV]
    exact .ptr _ _ _ _ x (hn id h1).1 (by rw [(hn id h1).2.1]; exact h)
  | sl id k off len x c h1 h hl hm =>
    simp only [rnV]
    exact .sl _ _ _ _ x c (hn id h1).1 (by rw [(hn id h1).2.1]; exact h) hl (by rw [(hn id h1).2.2]; exact hm)
  | slc id k off len x c h1 h hl hm =>
    simp only [rnV]
    exact .slc _ _ _ _ x c (hn id h1).1 (by rw [(hn id h1).2.1]; exact h) hl (by rw [(hn id h1).2.2]; exact hm)
  | slz id k off A h1 => simp only [rnV]; exact .slz _ _ _ A (hn id h1).1
  | mt A => simp only [rnV]; exact .mt A
  | rp k enc xs i f b o u hb hlen hcell hrel =>
    simp only [rnV]
    exact .rp k enc xs i f b o u (hR b hb) hlen hcell fun i x f v h1 h2 => (hrel i x f v h1 h2).mono hR fun _ _ => rfl

/-! ### The heap behind a call that was given some blocks -/
def selIdx : List Nat → Nat → Nat → Option Nat
  | [], _, _ => none
  | s :: sel, id, j => if s = id then some j else selIdx sel id (j + 1)
theorem selIdx_some : ∀ {sel : List Nat} {id j r : Nat}, selIdx sel id j = some r → j ≤ r ∧ sel[r - j]? = some id
  | [], id, j, r, h => by simp [selIdx] at h
  | s :: sel, id, j, r, h => by
    simp only [selIdx] at h
    split at h
    · rename_i he; cases h; subst he; simp
    · obtain ⟨h1, h2⟩ := selIdx_some h
      refine ⟨by omega, ?_⟩
      have : r - j = (r - (j + 1)) + 1 := by omega
      rw [this, List.getElem?_cons_succ]
      exact h2
theorem selIdx_none : ∀ {sel : List Nat} {id j : Nat}, selIdx sel id j = none → id ∉ sel
  | [], id, j, h => by simp
  | s :: sel, id, j, h => by
    simp only [selIdx] at h
    split at h
    · cases h
    · rename_i he
      have := selIdx_none h
      simp only [List.mem_cons, not_or]
      exact ⟨fun e => he e.symm, this⟩
def selσ (sel : List Nat) (p n : Nat) (j : Nat) : Nat := if j < p then sel.getD j 0 else n + (j - p)
def mergeAt (σ : Nat → Nat) (sp gone : List Nat) (H' : Heap) : Nat → Heap → Heap
  | _, [] => []
  | i, b :: H => (match selIdx sp i 0 with
      | some j => (H'.at j).map (Blk.rn σ)
      | none => if gone.contains i then none else b) :: mergeAt σ sp gone H' (i + 1) H
def mergeH (sel fz : List Nat) (p : Nat) (H H' : Heap) : Heap :=
  mergeAt (selσ sel p H.length) (sel.take p) (fz ++ sel.drop p) H' 0 H ++ (H'.drop p).map (Option.map (Blk.rn (selσ sel p H.length)))
theorem mergeAt_len (σ : Nat → Nat) (sp gone : List Nat) (H' : Heap) : ∀ (i : Nat) (H : Heap), (mergeAt σ sp gone H' i H).length = H.length
  | _, [] => rfl
  | i, b :: H => by simp only [mergeAt, List.length_cons, mergeAt_len σ sp gone H' (i + 1) H]
theorem mergeAt_get (σ : Nat → Nat) (sp gone : List Nat) (H' : Heap) : ∀ (i : Nat) (H : Heap) (k : Nat), k < H.length → (mergeAt σ sp gone H' i H).getD k none = (match selIdx sp (i + k) 0 with
      | some j => (H'.at j).map (Blk.rn σ)
      | none => if gone.contains (i + k) then none else H.getD k none)
  | _, [], k, h => absurd h (Nat.not_lt_zero _)
  | i, b :: H, 0, h => by simp only [mergeAt, List.getD_cons_zero, Nat.add_zero]
  | i, b :: H, k + 1, h => by
    simp only [mergeAt, List.getD_cons_succ]
    rw [mergeAt_get σ sp gone H' (i + 1) H k (by simpa using h)]
    have : i + 1 + k = i + (k + 1) := by omega
    rw [this]

def FZ (fz : List Nat) (id : Nat) : Prop := fz.contains id = true

theorem CallA.frame {P : Program} {f : FuncId} {args args0 : List AV} {H H0 : Heap} {K : AV → Heap → Prop} {Post : AV → Heap → Prop} (sel fz : List Nat) (p : Nat) (h : Does P f p args0 H0 Post)
    (hp : p ≤ H0.length) (hinj : injB (sel.map some) = true) (hfz : (fz.all fun i => !sel.contains i) = true)
    (hH : HTell H (FZ fz) (lτ (sel.map some)) H0.length (sel.map some) H0) (hall : H0.all Option.isSome = true) (hlen : sel.length = H0.length) (hargs : LSub H (FZ fz) (lτ (sel.map some)) H0.length args0 args)
    (hK : ∀ v H', Post v H' → p ≤ H'.length → K (rnV (selσ sel p H.length) v) (mergeH sel fz p H H')) : CallA P f args H K := by
  refine ⟨fun γ w us hs hl hr => ?_⟩
  have hτ : ∀ j, lτ (sel.map some) j = sel[j]? := fun j => by
    simp only [lτ, List.getElem?_map]
    cases sel[j]? <;> rfl
  have hnf : ∀ id, fz.contains id = true → id ∉ sel := fun id hid hm => by
    have := List.all_eq_true.1 hfz id (by simpa using hid)
    simp only [Bool.not_eq_true'] at this
    have h2 : sel.contains id = true := by simpa using hm
    rw [this] at h2
    cases h2
  have hsub : HSub 0 H (FZ fz) (lτ (sel.map some)) H0 :=
    ⟨Nat.zero_le _, fun j hj => absurd hj (Nat.not_lt_zero _), fun id hid j hj => by
      rw [hτ] at hj
      exact hnf id hid (List.mem_of_getElem? hj), injB_spec hinj, fun j b2 hj => hH.at' j b2 hj⟩
  obtain ⟨h3, h4⟩ := hsub.sat hs
  generalize hγ0 : γ.re H (FZ fz) (lτ (sel.map some)) H0.length = γ0 at h3 h4
  obtain ⟨g1, g2⟩ := hargs.get
  -- the given blocks
  have hsel : ∀ (j i : Nat), sel[j]? = some i → ∃ b, H.at i = some b := fun j i hj => by
    have hlt : j < H0.length := by rw [← hlen]; exact (List.getElem?_eq_some_iff.1 hj).1
    have h5 := List.all_eq_true.1 hall (H0[j]) (List.getElem_mem hlt)
    obtain ⟨b2, hb2⟩ := Option.isSome_iff_exists.1 h5
    have h6 : H0.at j = some b2 := by
      unfold Heap.at
      rw [List.getD_eq_getElem?_getD, List.getElem?_eq_getElem hlt, hb2]; rfl
    have h7 := hH.at' j b2 h6
    rw [hτ, hj] at h7
    obtain ⟨b, hb, _⟩ := h7
    exact ⟨b, hb⟩
  have hL0 : ∀ x, γ0.L H0 x → ∃ (j i : Nat) (b : Blk), sel[j]? = some i ∧ H.at i = some b ∧ γ.ρ i = some x := by
    rintro x ⟨j, b2, h5, h6⟩
    rw [← hγ0] at h6
    simp only [Gh.re, hτ] at h6
    cases hj : sel[j]? with
    | none => rw [hj] at h6; cases h6
    | some i =>
      rw [hj, Option.bind_some] at h6
      obtain ⟨b, hb⟩ := hsel j i hj
      exact ⟨j, i, b, hj, hb, h6⟩
  have hR0 : ∀ x, γ0.R x → γ.R x ∨ ∃ id b, fz.contains id = true ∧ H.at id = some b ∧ γ.ρ id = some x := fun x hx => by rw [← hγ0] at hx; exact hx
  refine (h γ0 w us h3 (g1.trans hl) fun i c v h1 h2 => ?_).mono ?_
  · have hi : i < args.length := by rw [← g1]; exact (List.getElem?_eq_some_iff.1 h1).1
    rw [← hγ0]
    exact VSub.rel hs (hr i _ v (List.getElem?_eq_getElem hi) h2) (g2 i c _ h1 (List.getElem?_eq_getElem hi))
  rintro e w' ⟨u, γ', v, H', rfl, hP, hp', ev, hs', hv⟩
  have hn' : γ'.n = H'.length := hs'.n
  let σ := selσ sel p H.length
  let γ2 : Gh := { ρ := fun id => if id < H.length then γ.ρ id else γ'.ρ (id - H.length + p), m := fun id => if id < H.length then γ.m id else γ'.m (id - H.length + p), R := γ'.R, n := H.length + (H'.length - p) }
  have hρp : ∀ j i, j < p → sel[j]? = some i → γ'.ρ j = γ.ρ i ∧ γ'.m j = γ.m i := fun j i hj hi => by
    have := ev.ρ j hj
    rw [← hγ0] at this
    simp only [Gh.re, hτ, hi, Option.bind_some] at this
    exact this
  have hn : ∀ j, j < γ'.n → σ j < γ2.n ∧ γ2.ρ (σ j) = γ'.ρ j ∧ γ2.m (σ j) = γ'.m j := fun j hj => by
    rw [hn'] at hj
    show selσ sel p H.length j < γ2.n ∧ γ2.ρ (selσ sel p H.length j) = γ'.ρ j ∧ γ2.m (selσ sel p H.length j) = γ'.m j
    unfold selσ
    split
    · rename_i hjp
      have hjl : j < sel.length := by omega
      have hi : sel[j]? = some (sel.getD j 0) := by rw [List.getD_eq_getElem?_getD, List.getElem?_eq_getElem hjl]; rfl
      obtain ⟨b, hb⟩ := hsel j _ hi
      have hlt := at_lt hb
      obtain ⟨e1, e2⟩ := hρp j _ hjp hi
      refine ⟨by show sel.getD j 0 < H.length + (H'.length - p); omega, ?_, ?_⟩
      · show (if sel.getD j 0 < H.length then γ.ρ (sel.getD j 0) else _) = _
        rw [if_pos hlt, e1]
      · show (if sel.getD j 0 < H.length then γ.m (sel.getD j 0) else _) = _
        rw [if_pos hlt, e2]
    · rename_i hjp
      have e1 : H.length + (j - p) - H.length + p = j := by omega
      refine ⟨by show H.length + (j - p) < H.length + (H'.length - p); omega, ?_, ?_⟩
      · show (if H.length + (j - p) < H.length then _ else γ'.ρ (H.length + (j - p) - H.length + p)) = _
        rw [if_neg (by omega), e1]
      · show (if H.length + (j - p) < H.length then _ else γ'.m (H.length + (j - p) - H.length + p)) = _
        rw [if_neg (by omega), e1]
  have hrel : ∀ v u, Rel γ' w' v u → Rel γ2 w' (rnV σ v) u := fun v u h => rn_rel hn (fun _ h => h) h
  -- what stands in the heap behind the call
  have hat : ∀ id b, (mergeH sel fz p H H').at id = some b → (∃ j c, j < H'.length ∧ H'.at j = some c ∧ σ j = id ∧ b = c.rn σ) ∨ (id < H.length ∧ H.at id = some b ∧ id ∉ sel ∧ ¬ fz.contains id = true) := by
    intro id b hb
    unfold mergeH at hb
    rcases Nat.lt_or_ge id H.length with hlt | hge
    · rw [at_append_old (by rw [mergeAt_len]; exact hlt)] at hb
      unfold Heap.at at hb
      rw [mergeAt_get _ _ _ _ _ _ _ hlt, Nat.zero_add] at hb
      cases hi : selIdx (sel.take p) id 0 with
      | some j =>
        rw [hi] at hb
        simp only [Option.map_eq_some_iff] at hb
        obtain ⟨c, hc, rfl⟩ := hb
        obtain ⟨_, h6⟩ := selIdx_some hi
        rw [Nat.sub_zero] at h6
        have hjp : j < p := by
          rcases Nat.lt_or_ge j p with h7 | h7
          · exact h7
          · rw [List.getElem?_take, if_neg (by omega)] at h6; cases h6
        rw [List.getElem?_take, if_pos hjp] at h6
        refine .inl ⟨j, c, at_lt hc, hc, ?_, rfl⟩
        show selσ sel p H.length j = id
        unfold selσ
        rw [if_pos hjp, List.getD_eq_getElem?_getD, h6]; rfl
      | none =>
        rw [hi] at hb
        simp only at hb
        split at hb
        · cases hb
        · rename_i hc
          have h7 := selIdx_none hi
          have h8 : ¬ fz.contains id = true ∧ id ∉ sel.drop p := by
            constructor
            · intro hh; exact hc (by simp at hh ⊢; exact .inl hh)
            · intro hh; exact hc (by simp; exact .inr hh)
          refine .inr ⟨hlt, hb, fun hm => ?_, h8.1⟩
          rw [← List.take_append_drop p sel] at hm
          rcases List.mem_append.1 hm with hm | hm
          · exact h7 hm
          · exact h8.2 hm
    · rw [at_append_new (by rw [mergeAt_len]; exact hge), mergeAt_len] at hb
      obtain ⟨c, hc, rfl⟩ := at_map hb
      have hc' : H'.at (p + (id - H.length)) = some c := by
        unfold Heap.at at hc ⊢
        rw [List.getD_eq_getElem?_getD, List.getElem?_drop] at hc
        rw [List.getD_eq_getElem?_getD]; exact hc
      refine .inl ⟨p + (id - H.length), c, at_lt hc', hc', ?_, rfl⟩
      show selσ sel p H.length (p + (id - H.length)) = id
      unfold selσ
      rw [if_neg (by omega)]
      omega
  have hnotsel : ∀ id b x, H.at id = some b → γ.ρ id = some x → id ∉ sel → ¬ γ0.L H0 x := fun id b x hb hx hns hl => by
    obtain ⟨j, i, b', h5, h6, h7⟩ := hL0 x hl
    have := hs.inj id i b b' x hb h6 hx h7
    subst this
    exact hns (List.mem_of_getElem? h5)
  have hLL : ∀ x, γ0.L H0 x → γ.L H x := fun x hx => by
    obtain ⟨j, i, b', h5, h6, h7⟩ := hL0 x hx
    exact ⟨i, b', h6, h7⟩
  have hkR : ∀ x, γ.R x → w'.heap[x]? = w.heap[x]? := fun x hx => ev.keep x (hs.rd x hx).1 fun hl => (hs.rd x hx).2 (hLL x hl)
  have hRR : ∀ x, γ.R x → γ'.R x := fun x hx => ev.R x (by rw [← hγ0]; exact .inl hx)
  have hρ2 : ∀ id, id < H.length → γ2.ρ id = γ.ρ id ∧ γ2.m id = γ.m id := fun id hid => by simp [γ2, hid]
  have hL2 : ∀ x, γ2.L (mergeH sel fz p H H') x → γ'.L H' x ∨ ∃ id b, id < H.length ∧ H.at id = some b ∧ id ∉ sel ∧ ¬ fz.contains id = true ∧ γ.ρ id = some x := by
    rintro x ⟨id, b, h5, h6⟩
    rcases hat id b h5 with ⟨j, c, hj, hc, rfl, rfl⟩ | ⟨hlt, hb, hns, hnz⟩
    · rw [(hn j (by rw [hn']; exact hj)).2.1] at h6
      exact .inl ⟨j, c, hc, h6⟩
    · rw [(hρ2 id hlt).1] at h6
      exact .inr ⟨id, b, hlt, hb, hns, hnz, h6⟩
  refine ⟨u, γ2, _, _, rfl, hK v H' hP hp', by simp [mergeH, mergeAt_len], ⟨fun id hid => hρ2 id hid, hRR, fun x hx => ?_, fun x hx => ?_, ev.os, ev.tape, ev.output, ev.size, fun x hx hl => ev.keep x hx fun h => hl (hLL x h)⟩, ⟨?_, fun id b hb => ?_, fun id id' b b' x h5 h6 h7 h8 => ?_, fun x hx => ?_⟩, hrel v u hv⟩
  · rcases ev.R' x hx with h5 | h5 | h5
    · rcases hR0 x h5 with h6 | ⟨id, b, _, h6, h7⟩
      · exact .inl h6
      · exact .inr (.inl ⟨id, b, h6, h7⟩)
    · exact .inr (.inl (hLL x h5))
    · exact .inr (.inr h5)
  · rcases hL2 x hx with h5 | ⟨id, b, _, h5, _, _, h6⟩
    · rcases ev.L x h5 with h6 | h6
      · exact .inl (hLL x h6)
      · exact .inr h6
    · exact .inl ⟨id, b, h5, h6⟩
  · simp [γ2, mergeH, mergeAt_len]
  · rcases hat id b hb with ⟨j, c, hj, hc, rfl, rfl⟩ | ⟨hlt, hb', hns, hnz⟩
    · obtain ⟨_, e1, e2⟩ := hn j (by rw [hn']; exact hj)
      rw [e1, e2]
      have := hs'.blk j c hc
      unfold BOk at this ⊢
      cases hid : γ'.ρ j with
      | none =>
        rw [hid] at this
        simp only at this ⊢
        rw [Blk.rn_L, this]; rfl
      | some x =>
        rw [hid] at this
        obtain ⟨vs, t, a1, a2, a4⟩ := this
        refine ⟨vs, t, a1, a2, ⟨fun i row hr => ?_, by rw [Blk.rn_L, Blk.rn_k, List.length_map]; exact a4.sz, fun i row f v u hr hf hu => ?_⟩⟩
        · rw [Blk.rn_L, List.getElem?_map, Option.map_eq_some_iff] at hr
          obtain ⟨r0, h5, rfl⟩ := hr
          rw [Blk.rn_k, rnL_eq, List.length_map]
          exact a4.len i r0 h5
        · rw [Blk.rn_L, List.getElem?_map, Option.map_eq_some_iff] at hr
          obtain ⟨r0, h5, rfl⟩ := hr
          rw [rnL_eq, List.getElem?_map, Option.map_eq_some_iff] at hf
          obtain ⟨v0, h6, rfl⟩ := hf
          rw [Blk.rn_k] at hu
          exact hrel _ _ (a4.rel i r0 f v0 u h5 h6 hu)
    · rw [(hρ2 id hlt).1, (hρ2 id hlt).2]
      have := hs.blk id b hb'
      unfold BOk at this ⊢
      cases hid : γ.ρ id with
      | none => rw [hid] at this; exact this
      | some x =>
        rw [hid] at this
        obtain ⟨vs, t, a1, a2, a3⟩ := this
        exact ⟨vs, t, by rw [ev.keep x (hs.lt hb' hid) (hnotsel id b x hb' hid hns)]; exact a1, a2, BRel.mono (γ := γ) (γ' := γ2) (by show γ.n ≤ H.length + (H'.length - p); rw [hs.n]; omega)
          (fun i hi => by rw [hs.n] at hi; exact hρ2 i hi) hRR hkR a3⟩
  · have cross : ∀ (j : Nat) (c : Blk) (i : Nat) (b : Blk), H'.at j = some c → γ'.ρ j = some x → H.at i = some b → i ∉ sel → γ.ρ i = some x → False := fun j c i b a1 a2 a3 a4 a5 => by
      rcases ev.L x ⟨j, c, a1, a2⟩ with h9 | h9
      · exact hnotsel i b x a3 a5 a4 h9
      · have := hs.lt a3 a5
        omega
    rcases hat id b h5 with ⟨j, c, hj, hc, rfl, rfl⟩ | ⟨hlt, hb', hns, hnz⟩ <;> rcases hat id' b' h6 with ⟨j', c', hj', hc', rfl, rfl⟩ | ⟨hlt', hb'', hns', hnz'⟩
    · rw [(hn j (by rw [hn']; exact hj)).2.1] at h7
      rw [(hn j' (by rw [hn']; exact hj')).2.1] at h8
      rw [hs'.inj j j' c c' x hc hc' h7 h8]
    · rw [(hn j (by rw [hn']; exact hj)).2.1] at h7
      rw [(hρ2 id' hlt').1] at h8
      exact (cross j c id' b' hc h7 hb'' hns' h8).elim
    · rw [(hρ2 id hlt).1] at h7
      rw [(hn j' (by rw [hn']; exact hj')).2.1] at h8
      exact (cross j' c' id b hc' h8 hb' hns h7).elim
    · rw [(hρ2 id hlt).1] at h7
      rw [(hρ2 id' hlt').1] at h8
      exact hs.inj id id' b b' x hb' hb'' h7 h8
  · refine ⟨(hs'.rd x hx).1, fun hl => ?_⟩
    rcases hL2 x hl with h5 | ⟨id, b, hlt, hb, hns, hnz, hid⟩
    · exact (hs'.rd x hx).2 h5
    · rcases ev.R' x hx with h6 | h6 | h6
      · rcases hR0 x h6 with h7 | ⟨i, b', h7, h8, h9⟩
        · exact (hs.rd x h7).2 ⟨id, b, hb, hid⟩
        · have := hs.inj id i b b' x hb h8 hid h9
          subst this
          exact hnz h7
      · exact hnotsel id b x hb hid hns h6
      · have := hs.lt hb hid
        omega
end Go.Ae
end
section
namespace Go.Ae
set_option linter.unusedVariables false
set_option linter.unusedSimpArgs false
/-! ### Drawn regions with loads beside what works on other blocks -/
section
variable {P : Program} {ops : Array Oper} {md : Region.Mode} {B : Nat → List Nat}

def Keeps (D : List Nat) (H H' : Heap) : Prop := ∀ id ∈ D, H'.at id = H.at id
theorem Keeps.refl (D : List Nat) (H : Heap) : Keeps D H H := fun _ _ => rfl

/-- Operation number i comes up. -/
def opE (P : Program) (ops : Array Oper) (B : Nat → List Nat) (i : Nat) (K : Slots → Heap → Prop) (s : Slots) (H : Heap) : Prop :=
  match ops[i]? with
  | none => K s H
  | some o => match wantA ops.toList o s with
    | some true => S1 P o s H fun v H' => Keeps (B i) H H' ∧ K (putS s o.dst v) H'
    | some false => K (putS s o.dst (.lit undef)) H
    | none => False

theorem opE_mono {i : Nat} {K K' : Slots → Heap → Prop} {s : Slots} {H : Heap} (h : ∀ s H', Keeps (B i) H H' → K s H' → K' s H') (hh : opE P ops B i K s H) : opE P ops B i K' s H := by
  unfold opE at *
  split
  · rename_i ho; simp only [ho] at hh; exact h _ _ (Keeps.refl _ _) hh
  · rename_i o ho
    simp only [ho] at hh
    split
    · rename_i hw; simp only [hw] at hh; exact hh.mono fun v H' ⟨h1, h2⟩ => ⟨h1, h _ _ h1 h2⟩
    · rename_i hw; simp only [hw] at hh; exact h _ _ (Keeps.refl _ _) hh
    · rename_i hw; simp only [hw] at hh

/-- Whatever order is picked from here on. -/
def anyE (P : Program) (md : Region.Mode) (ops : Array Oper) (B : Nat → List Nat) (Q : Slots → Heap → Prop) : Nat → Array Bool → Slots → Heap → Prop
  | 0, listed, s, H => Region.ready md ops listed = [] ∧ Q s H
  | fuel + 1, listed, s, H =>
    (Region.ready md ops listed = [] → Q s H) ∧
    ∀ i ∈ Region.ready md ops listed, opE P ops B i (anyE P md ops B Q fuel (listed.setIfInBounds i true)) s H

theorem anyE_sound {p : Nat} {Q : Slots → Heap → Prop} {Q' : Exit → Act → World → Prop} : ∀ (fuel : Nat) (listed : Array Bool) (s : Slots) (H : Heap), anyE P md ops B Q fuel listed s H →
    ∀ γ a w, Sat γ w H → SRel γ w s a → p ≤ H.length →
    (∀ γ' a' w' s' H', Q s' H' → H.length ≤ H'.length → Evo H.length γ H w γ' H' w' → Sat γ' w' H' → SRel γ' w' s' a' → Q' .normal a' w') →
    wpAny P md ops Q' fuel listed a w
  | 0, listed, s, H, h, γ, a, w, hs, hr, hp, hQ => ⟨h.1, hQ γ a w s H h.2 (Nat.le_refl _) (.refl _ _ _ _) hs hr⟩
  | fuel + 1, listed, s, H, h, γ, a, w, hs, hr, hp, hQ => by
    refine ⟨fun h0 => hQ γ a w s H (h.1 h0) (Nat.le_refl _) (.refl _ _ _ _) hs hr, fun i hi => ?_⟩
    have h1 := h.2 i hi
    unfold opE at h1
    unfold wpOp
    split at h1
    · rename_i ho
      simp only [ho]
      exact anyE_sound fuel _ s H h1 γ a w hs hr hp hQ
    · rename_i o ho
      simp only [ho]
      split at h1
      · rename_i hw
        rw [if_pos (wanted_of_wantA hr hw)]
        refine .inl (h1.opA γ a w hs hr _ _ fun γ' u v H' w' hk hlen ev hs' hv => ?_)
        refine anyE_sound fuel _ (putS s o.dst v) H' hk.2 γ' _ w' hs' ((hr.evo hs hs' hlen ev).put hv _) (Nat.le_trans hp hlen) fun γ'' a'' w'' s'' H'' q hl'' ev' hs'' hr'' => ?_
        exact hQ γ'' a'' w'' s'' H'' q (Nat.le_trans hlen hl'') (ev.trans ⟨fun id hid => ev'.ρ id (Nat.lt_of_lt_of_le hid hlen), ev'.R, ev'.R', ev'.L, ev'.os, ev'.tape, ev'.output, ev'.size, ev'.keep⟩) hs'' hr''
      · rename_i hw
        rw [if_neg (by rw [wanted_of_wantA hr hw]; simp)]
        exact anyE_sound fuel _ (putS s o.dst (.lit undef)) H h1 γ _ w hs (hr.put (.r (.lit _)) _) hp hQ
      · exact h1.elim

/-- Operation o yields v where the blocks of D stand as in H, and leaves the heap. -/
def YieldsE (P : Program) (ops : Array Oper) (D : List Nat) (o : Oper) (v : AV) (s : Slots) (H : Heap) : Prop :=
  (wantA ops.toList o s = some true ∧ ∀ H', Keeps D H H' → S1 P o s H' fun v' H'' => v' = v ∧ H'' = H') ∨ (wantA ops.toList o s = some false ∧ v = .lit undef)

theorem YieldsE.keep {D : List Nat} {o : Oper} {v : AV} {s : Slots} {H H1 : Heap} (h : YieldsE P ops D o v s H) (hk : Keeps D H H1) : YieldsE P ops D o v s H1 := by
  rcases h with ⟨h1, h2⟩ | h
  · exact .inl ⟨h1, fun H' hH' => h2 H' fun id hid => (hH' id hid).trans (hk id hid)⟩
  · exact .inr h

theorem YieldsE.opE {D : List Nat} {i : Nat} {o : Oper} {v : AV} {s : Slots} {H : Heap} (hi : ops[i]? = some o) (hy : YieldsE P ops D o v s H) {K : Slots → Heap → Prop} (h : K (putS s o.dst v) H) : opE P ops B i K s H := by
  unfold Ae.opE
  simp only [hi]
  rcases hy with ⟨hw, hv⟩ | ⟨hw, rfl⟩
  · simp only [hw]
    exact (hv H (Keeps.refl _ _)).mono fun v' H' ⟨e1, e2⟩ => by subst e1 e2; exact ⟨Keeps.refl _ _, h⟩
  · simp only [hw]; exact h

theorem opE_put {D : List Nat} {j : Nat} {oi oj : Oper} {v : AV} (hj : ops[j]? = some oj) (hap : oi.apart ops oj = true) (hD : ∀ id ∈ D, id ∈ B j) {K : Slots → Heap → Prop} {s : Slots} {H : Heap}
    (hy : YieldsE P ops D oi v s H) (h : opE P ops B j K (putS s oi.dst v) H) :
    opE P ops B j (fun s' H' => YieldsE P ops D oi v s' H' ∧ K (putS s' oi.dst v) H') s H := by
  obtain ⟨h1, h2, h3⟩ := Oper.apart_spec hap
  have keep : ∀ u H', Keeps (B j) H H' → YieldsE P ops D oi v (putS s oj.dst u) H' := fun u H' hk => by
    have hk' : Keeps D H H' := fun id hid => hk id (hD id hid)
    rcases hy.keep hk' with ⟨hw, hv⟩ | ⟨hw, rfl⟩
    · exact .inl ⟨by rw [wantA_put oi s _ _ h3]; exact hw, fun H hH => (S1.put h3).2 (hv H hH)⟩
    · exact .inr ⟨by rw [wantA_put oi s _ _ h3]; exact hw, rfl⟩
  unfold Ae.opE at *
  simp only [hj] at *
  rw [wantA_put oj s _ _ h1] at h
  split
  · rename_i hw
    simp only [hw] at h
    exact ((S1.put h1).1 h).mono fun u H' ⟨g1, g2⟩ => ⟨g1, keep u H' g1, by rw [← putS_comm s v u h2]; exact g2⟩
  · rename_i hw
    simp only [hw] at h
    exact ⟨keep _ _ (Keeps.refl _ _), by rw [← putS_comm s v (.lit undef) h2]; exact h⟩
  · rename_i hw; simp only [hw] at h

theorem anyE_first {Q : Slots → Heap → Prop} {D : List Nat} {i : Nat} {oi : Oper} {v : AV} (hi : ops[i]? = some oi) :
    ∀ (fuel : Nat) (listed : Array Bool) (s : Slots) (H : Heap),
      (∀ j oj, ops[j]? = some oj → j ≠ i → listed.getD j true = false → (∀ e ∈ oj.after, Region.binds md e = true → e.on ≠ i) → oi.apart ops oj = true ∧ ∀ id ∈ D, id ∈ B j) →
      i ∈ Region.ready md ops listed → YieldsE P ops D oi v s H →
      anyE P md ops B Q fuel (listed.setIfInBounds i true) (putS s oi.dst v) H → anyE P md ops B Q (fuel + 1) listed s H := by
  intro fuel
  induction fuel with
  | zero =>
    intro listed s H _ hr hy hH
    refine ⟨fun h => (by rw [h] at hr; cases hr), fun j hj => ?_⟩
    by_cases hji : j = i
    · subst hji; exact hy.opE hi hH
    · have := ready_mono hj hji
      rw [hH.1] at this
      cases this
  | succ fuel ih =>
    intro listed s H hfree hr hy hH
    refine ⟨fun h => (by rw [h] at hr; cases hr), fun j hj => ?_⟩
    by_cases hji : j = i
    · subst hji; exact hy.opE hi hH
    · have h1 := hH.2 j (ready_mono hj hji)
      obtain ⟨hjun, oj, hoj, hall⟩ := mem_ready.1 hj
      have hnot : ∀ e ∈ oj.after, Region.binds md e = true → e.on ≠ i := fun e he hb heq => by
        have h1 := hall e he hb
        have h0 := (mem_ready.1 hr).1
        rw [heq] at h1
        rcases Nat.lt_or_ge i listed.size with h' | h'
        · simp [h'] at h0 h1; rw [h0] at h1; cases h1
        · simp [Array.getElem?_eq_none h'] at h1
      obtain ⟨ha, hd⟩ := hfree j oj hoj hji hjun hnot
      have h2 := opE_put hoj ha hd hy h1
      have hfree' : ∀ k ok, ops[k]? = some ok → k ≠ i → (listed.setIfInBounds j true).getD k true = false →
          (∀ e ∈ ok.after, Region.binds md e = true → e.on ≠ i) → oi.apart ops ok = true ∧ ∀ id ∈ D, id ∈ B k := fun k ok hk hki hun hno => by
        refine hfree k ok hk hki ?_ hno
        by_cases hjk : j = k
        · subst hjk; exact hjun
        · rw [getD_set_ne true hjk] at hun; exact hun
      refine opE_mono (fun s' H' _ h3 => ih (listed.setIfInBounds j true) s' H' hfree' (ready_mono hr (Ne.symm hji)) h3.1 ?_) h2
      rw [Array.setIfInBounds_comm _ _ hji]
      exact h3.2
end

/-! #### The order, looked at quickly -/
structure ERow where
  i : Nat
  kind : Nat
  row : QRow
def erow (ops : Array Oper) (q : Nat × Nat) : ERow := ⟨q.1, q.2, match ops[q.1]? with | some o => qrow ops o | none => ⟨none, [], []⟩⟩
/-- kinds: 0 looks at slots alone, 1 loads, 2 anything (alone ready). free: those beside which no load is open. -/
def orderE (free : List Nat) : List Nat → List ERow → Bool
  | _, [] => true
  | done, r :: rest => !done.contains r.i && r.row.deps.all (fun d => done.contains d) &&
    (if Nat.blt r.kind 2 then rest.all (fun s => s.row.deps.contains r.i || (qapart r.row s.row && (Nat.beq r.kind 0 || !free.contains s.i)))
     else rest.all (fun s => s.row.deps.any (fun d => !done.contains d))) && orderE free (r.i :: done) rest
def kindE (op : Op) (k : Nat) : Bool := if Nat.beq k 0 then lightOp op else if Nat.beq k 1 then quietOp op else true
def drawEB (ops : Array Oper) (free : List Nat) (l : List (Nat × Nat)) : Bool :=
  (List.range ops.size).all (fun j => (l.map (·.1)).contains j) && Nat.beq l.length ops.size && l.all (fun q => Nat.blt q.1 ops.size) && orderE free [] (l.map (erow ops)) && l.all fun q => match ops[q.1]? with
    | some o => kindE o.op q.2
    | none => false

def loadIn (Ball : List Nat) (v : AV) : Prop := match v with
  | .ptr id _ _ _ => Ball.contains id = true
  | _ => True
def KeepL : List Nat → Heap → Heap → Prop
  | [], _, _ => True
  | id :: B, H, H' => H'.at id = H.at id ∧ KeepL B H H'
theorem KeepL.keeps : ∀ {B : List Nat} {H H' : Heap}, KeepL B H H' → Keeps B H H'
  | [], _, _, _ => fun _ h => by cases h
  | id :: B, H, H', h => fun i hi => by
    rcases List.mem_cons.1 hi with rfl | hi
    · exact h.1
    · exact KeepL.keeps h.2 i hi
def keepsK (Ball : List Nat) (fr : Bool) (H H' : Heap) : Prop := match fr with
  | true => True
  | false => KeepL Ball H H'
def oneE (P : Program) (Ball free : List Nat) (i k : Nat) (o : Op) (s : Slots) (H : Heap) (K : AV → Heap → Prop) : Prop := match k with
  | 0 => lightK P o s H K
  | 1 => (match o with | .load _ x => loadIn Ball (ev s x) | _ => False) ∧ lightK P o s H K
  | _ => stepK P o s H fun v H' => keepsK Ball (free.contains i) H H' ∧ K v H'
def drawEK (P : Program) (all : List Oper) (Ball free : List Nat) : List (Nat × Nat) → Slots → Heap → (Slots → Heap → Prop) → Prop
  | [], s, H, K => K s H
  | (i, k) :: rest, s, H, K => match all[i]? with
    | none => False
    | some o => match o.guard with
      | none => oneE P Ball free i k o.op s H (fun v H' => drawEK P all Ball free rest (putS s o.dst v) H' K)
      | some (j, want) => match gslot all j with
        | some d => match s.getD d .any with
          | .r (.lit (.bool b)) =>
            guardK b want (oneE P Ball free i k o.op (s.set d (.lit (.bool want))) H (fun v H' => drawEK P all Ball free rest (putS (s.set d (.lit (.bool want))) o.dst v) H' K))
              (drawEK P all Ball free rest (putS (s.set d (.lit (.bool !want))) o.dst (.lit undef)) H K)
          | .r (.lit (.tuple _)) => drawEK P all Ball free rest (putS s o.dst (.lit undef)) H K
          | _ => False
        | none => False

theorem loadE_sound {P : Program} {op : Op} {s : Slots} {H : Heap} {K : AV → Heap → Prop} {Ball : List Nat} (hl : (match op with | .load _ x => loadIn Ball (ev s x) | _ => False)) (h : lightK P op s H K) :
    ∃ v D, (∀ id ∈ D, id ∈ Ball) ∧ (∀ H', Keeps D H H' → stepK P op s H' fun v' H'' => v' = v ∧ H'' = H') ∧ K v H := by
  cases op with
  | load t x =>
    simp only [lightK, stepK, loadK] at h hl ⊢
    generalize tyOf P t = yt at h ⊢
    cases yt with
    | none => exact h.elim
    | some y =>
      simp only at h ⊢
      generalize ev s x = vx at h hl ⊢
      split at h
      · rename_i id k i f
        simp only [loadIn] at hl
        have hid : id ∈ Ball := by simpa using hl
        have hD : ∀ i ∈ [id], i ∈ Ball := fun i hi => by rw [List.mem_singleton.1 hi]; exact hid
        split at h
        · rename_i l hb
          exact ⟨_, [id], hD, fun H' hk => by simp only [hk id (by simp), hb]; exact ⟨h.1, by trivial, by trivial⟩, h.2⟩
        · rename_i hb
          exact ⟨_, [id], hD, fun H' hk => by simp only [hk id (by simp), hb]; exact ⟨h.1, by trivial, by trivial⟩, h.2⟩
        · rename_i l hb
          exact ⟨_, [id], hD, fun H' hk => by simp only [hk id (by simp), hb]; exact ⟨h.1, by trivial, by trivial⟩, h.2⟩
        · exact h.elim
      · exact ⟨_, [], (fun _ h => by cases h), fun H' _ => ⟨h.1, rfl, by trivial⟩, h.2⟩
      · exact h.elim
  | _ => exact hl.elim

theorem drawE_any {P : Program} {ops : Array Oper} {Ball free : List Nat} {K : Slots → Heap → Prop} : ∀ (l : List (Nat × Nat)) (done : List Nat) (listed : Array Bool) (s : Slots) (H : Heap),
    (∀ j, listed[j]? = if j < ops.size then some (done.contains j) else none) → (∀ j, done.contains j = true → j < ops.size) → (∀ j, j < ops.size → done.contains j = true ∨ j ∈ l.map (·.1)) → (∀ q ∈ l, q.1 < ops.size) →
    orderE free done (l.map (erow ops)) = true → (∀ q ∈ l, ∀ o, ops[q.1]? = some o → kindE o.op q.2 = true) → drawEK P ops.toList Ball free l s H K →
    anyE P .any ops (fun i => if free.contains i then [] else Ball) K l.length listed s H
  | [], done, listed, s, H, hli, hd, hc, hlt, ho, hk, h => by
    refine ⟨?_, h⟩
    rcases hr : Region.ready .any ops listed with _ | ⟨j, t⟩
    · rfl
    · have hj : j ∈ Region.ready .any ops listed := by rw [hr]; simp
      obtain ⟨h1, o, hoj, _⟩ := mem_ready.1 hj
      have hjl : j < ops.size := (Array.getElem?_eq_some_iff.1 hoj).1
      rw [Array.getD_eq_getD_getElem?, hli j, if_pos hjl] at h1
      rcases hc j hjl with h2 | h2
      · simp at h1 h2; exact absurd h2 h1
      · cases h2
  | (i, k) :: rest, done, listed, s, H, hli, hd, hc, hlt, ho, hk, h => by
    have hil : i < ops.size := hlt (i, k) (by simp)
    obtain ⟨o, hoi⟩ : ∃ o, ops[i]? = some o := ⟨_, Array.getElem?_eq_getElem hil⟩
    have hkind := hk (i, k) (by simp) o hoi
    have erow_i : erow ops (i, k) = ⟨i, k, qrow ops o⟩ := by simp [erow, hoi]
    simp only [List.map_cons, orderE, erow_i, Bool.and_eq_true, Bool.not_eq_true'] at ho
    obtain ⟨⟨⟨ho1, ho2⟩, ho3⟩, ho4⟩ := ho
    have get : ∀ j, j < ops.size → ∀ d, listed.getD j d = done.contains j := fun j hj d => by
      rw [Array.getD_eq_getD_getElem?, hli j, if_pos hj]; rfl
    have hready : i ∈ Region.ready .any ops listed := mem_ready.2 ⟨by rw [get i hil]; exact ho1, o, hoi, fun x hx hb => by
      have : x.on ∈ (qrow ops o).deps := List.mem_map.2 ⟨x, List.mem_filter.2 ⟨by simpa using hx, hb⟩, rfl⟩
      have h4 := List.all_eq_true.1 ho2 _ this
      rw [get _ (hd _ h4)]
      exact h4⟩
    have hsz : ops.size = listed.size := by
      rcases Nat.lt_trichotomy ops.size listed.size with hh | hh | hh
      · have := hli ops.size
        rw [if_neg (Nat.lt_irrefl _), Array.getElem?_eq_none_iff] at this
        omega
      · exact hh
      · have := hli listed.size
        rw [if_pos hh, Array.getElem?_eq_none (Nat.le_refl _)] at this
        cases this
    have hli' : ∀ j, (listed.setIfInBounds i true)[j]? = if j < ops.size then some ((i :: done).contains j) else none := fun j => by
      rw [Array.getElem?_setIfInBounds]
      by_cases hij : i = j
      · subst hij
        rw [if_pos rfl, if_pos (by omega), if_pos hil]
        simp
      · rw [if_neg hij, hli j]
        by_cases hj : j < ops.size
        · rw [if_pos hj, if_pos hj]
          congr 1
          have : ¬ j = i := fun e => hij e.symm
          simp [this]
        · rw [if_neg hj, if_neg hj]
    have hd' : ∀ j, (i :: done).contains j = true → j < ops.size := fun j hj => by
      simp only [List.contains_cons, Bool.or_eq_true, beq_iff_eq] at hj
      rcases hj with rfl | hj
      · exact hil
      · exact hd j hj
    have hc' : ∀ j, j < ops.size → (i :: done).contains j = true ∨ j ∈ rest.map (·.1) := fun j hj => by
      rcases hc j hj with h1 | h1
      · exact .inl (by simp only [List.contains_cons, h1, Bool.or_true])
      · rcases List.mem_cons.1 h1 with h2 | h2
        · exact .inl (by simp only [List.contains_cons, h2]; simp)
        · exact .inr h2
    have next : ∀ s' H', drawEK P ops.toList Ball free rest s' H' K → anyE P .any ops (fun i => if free.contains i then [] else Ball) K rest.length (listed.setIfInBounds i true) s' H' :=
      fun s' H' h' => drawE_any rest (i :: done) _ s' H' hli' hd' hc' (fun q hq => hlt q (List.mem_cons_of_mem _ hq)) ho4 (fun q hq => hk q (List.mem_cons_of_mem _ hq)) h'
    -- what is open beside it
    have open_ : ∀ j oj, ops[j]? = some oj → j ≠ i → listed.getD j true = false → ∃ r ∈ rest.map (erow ops), r.i = j ∧ r.row = qrow ops oj := fun j oj hoj hji hun => by
      have hjl : j < ops.size := (Array.getElem?_eq_some_iff.1 hoj).1
      rw [get j hjl] at hun
      rcases hc j hjl with h1 | h1
      · rw [hun] at h1; cases h1
      · rcases List.mem_cons.1 h1 with h2 | h2
        · exact absurd h2 hji
        · obtain ⟨q, hq, rfl⟩ := List.mem_map.1 h2
          exact ⟨erow ops q, List.mem_map.2 ⟨q, hq, rfl⟩, rfl, by simp [erow, hoj]⟩
    have one : ∀ s1 : Slots, s1 = s → wantA ops.toList o s = some true → oneE P Ball free i k o.op s1 H (fun v H' => drawEK P ops.toList Ball free rest (putS s1 o.dst v) H' K) →
        anyE P .any ops (fun i => if free.contains i then [] else Ball) K (rest.length + 1) listed s H := by
      rintro s1 rfl hw h1
      have go : ∀ (D : List Nat) (v : AV), (Nat.blt k 2 = true) → (k = 0 → D = []) → (∀ id ∈ D, id ∈ Ball) → (∀ H', Keeps D H H' → stepK P o.op s1 H' fun v' H'' => v' = v ∧ H'' = H') →
          drawEK P ops.toList Ball free rest (putS s1 o.dst v) H K → anyE P .any ops (fun i => if free.contains i then [] else Ball) K (rest.length + 1) listed s1 H := by
        intro D v hk2 hk0 hD hst hr
        rw [if_pos hk2] at ho3
        refine anyE_first (D := D) hoi rest.length listed s1 H (fun j oj hoj hji hun hno => ?_) hready (.inl ⟨hw, fun H' hH' => ⟨_, hst H' hH', fun _ _ h => h⟩⟩) (next _ _ hr)
        obtain ⟨r, hr1, hr2, hr3⟩ := open_ j oj hoj hji hun
        have h5 := List.all_eq_true.1 ho3 r hr1
        simp only [Bool.or_eq_true, Bool.and_eq_true] at h5
        rcases h5 with h5 | h5
        · exfalso
          have h6 : i ∈ r.row.deps := by simpa using h5
          rw [hr3] at h6
          obtain ⟨x, hx, he⟩ := List.mem_map.1 h6
          obtain ⟨hx1, hx2⟩ := List.mem_filter.1 hx
          exact hno x (by simpa using hx1) hx2 he
        · obtain ⟨h6, h7⟩ := h5
          rw [hr3, qapart_eq] at h6
          refine ⟨h6, fun id hid => ?_⟩
          rcases h7 with h7 | h7
          · have : k = 0 := by simpa using h7
            rw [hk0 this] at hid
            cases hid
          · rw [hr2] at h7
            simp only [Bool.not_eq_true'] at h7
            show id ∈ (if free.contains j = true then [] else Ball)
            rw [h7]
            simpa using hD id hid
      match k, hkind, h1, ho3, go with
      | 0, hkind, h1, ho3, go =>
        have hl : lightOp o.op = true := by simpa [kindE] using hkind
        have h1' : lightK P o.op s1 H (fun v H' => drawEK P ops.toList Ball free rest (putS s1 o.dst v) H' K) := h1
        obtain ⟨v, h2, h3⟩ := lightK_sound hl h1'
        exact go [] v rfl (fun _ => rfl) (fun _ h => by cases h) (fun H' _ => h2 H') h3
      | 1, hkind, h1, ho3, go =>
        obtain ⟨v, D, h2, h3, h4⟩ := loadE_sound h1.1 h1.2
        exact go D v rfl (fun h => by cases h) h2 h3 h4
      | k + 2, hkind, h1, ho3, go =>
        have hk2 : ¬ Nat.blt (k + 2) 2 = true := by simp
        rw [if_neg hk2] at ho3
        refine ⟨fun h0 => (by rw [h0] at hready; cases hready), fun j hj => ?_⟩
        have hji : j = i := by
          rcases Decidable.em (j = i) with h5 | h5
          · exact h5
          · exfalso
            obtain ⟨hun, oj, hoj, hall⟩ := mem_ready.1 hj
            obtain ⟨r, hr1, hr2, hr3⟩ := open_ j oj hoj h5 hun
            have h6 := List.all_eq_true.1 ho3 r hr1
            rw [hr3] at h6
            obtain ⟨d, hd1, hd2⟩ := List.any_eq_true.1 h6
            obtain ⟨x, hx, he⟩ := List.mem_map.1 hd1
            obtain ⟨hx1, hx2⟩ := List.mem_filter.1 hx
            have h7 := hall x (by simpa using hx1) hx2
            rcases Nat.lt_or_ge x.on ops.size with h8 | h8
            · rw [get _ h8, he] at h7
              rw [h7] at hd2
              cases hd2
            · rw [Array.getD_eq_getD_getElem?, hli x.on, if_neg (by omega)] at h7
              cases h7
        subst hji
        unfold opE
        simp only [hoi, hw]
        have h1' : stepK P o.op s1 H (fun v H' => keepsK Ball (free.contains j) H H' ∧ drawEK P ops.toList Ball free rest (putS s1 o.dst v) H' K) := h1
        refine ⟨_, h1', fun v H' h2 => ⟨?_, next _ _ h2.2⟩⟩
        show Keeps (if free.contains j = true then [] else Ball) H H'
        have h3 := h2.1
        cases hf : free.contains j with
        | true => rw [if_pos rfl]; exact fun _ h => by cases h
        | false =>
          rw [hf] at h3
          rw [if_neg (by simp)]
          exact KeepL.keeps h3
    have pass : wantA ops.toList o s = some false → drawEK P ops.toList Ball free rest (putS s o.dst (.lit undef)) H K → anyE P .any ops (fun i => if free.contains i then [] else Ball) K (rest.length + 1) listed s H := by
      intro hw h1
      by_cases hk2 : Nat.blt k 2 = true
      · rw [if_pos hk2] at ho3
        refine anyE_first (D := []) (v := .lit undef) hoi rest.length listed s H (fun j oj hoj hji hun hno => ?_) hready (.inr ⟨hw, rfl⟩) (next _ _ h1)
        obtain ⟨r, hr1, hr2, hr3⟩ := open_ j oj hoj hji hun
        have h5 := List.all_eq_true.1 ho3 r hr1
        simp only [Bool.or_eq_true, Bool.and_eq_true] at h5
        rcases h5 with h5 | h5
        · exfalso
          have h6 : i ∈ r.row.deps := by simpa using h5
          rw [hr3] at h6
          obtain ⟨x, hx, he⟩ := List.mem_map.1 h6
          obtain ⟨hx1, hx2⟩ := List.mem_filter.1 hx
          exact hno x (by simpa using hx1) hx2 he
        · have h6 := h5.1
          rw [hr3, qapart_eq] at h6
          exact ⟨h6, fun id hid => by cases hid⟩
      · rw [if_neg hk2] at ho3
        refine ⟨fun h0 => (by rw [h0] at hready; cases hready), fun j hj => ?_⟩
        have hji : j = i := by
          rcases Decidable.em (j = i) with h5 | h5
          · exact h5
          · exfalso
            obtain ⟨hun, oj, hoj, hall⟩ := mem_ready.1 hj
            obtain ⟨r, hr1, hr2, hr3⟩ := open_ j oj hoj h5 hun
            have h6 := List.all_eq_true.1 ho3 r hr1
            rw [hr3] at h6
            obtain ⟨d, hd1, hd2⟩ := List.any_eq_true.1 h6
            obtain ⟨x, hx, he⟩ := List.mem_map.1 hd1
            obtain ⟨hx1, hx2⟩ := List.mem_filter.1 hx
            have h7 := hall x (by simpa using hx1) hx2
            rcases Nat.lt_or_ge x.on ops.size with h8 | h8
            · rw [get _ h8, he] at h7
              rw [h7] at hd2
              cases hd2
            · rw [Array.getD_eq_getD_getElem?, hli x.on, if_neg (by omega)] at h7
              cases h7
        subst hji
        unfold opE
        simp only [hoi, hw]
        exact next _ _ h1
    unfold drawEK at h
    rw [Array.getElem?_toList, hoi] at h
    simp only at h
    show anyE P .any ops (fun i => if free.contains i then [] else Ball) K (rest.length + 1) listed s H
    split at h
    · rename_i hg
      exact one s rfl (by simp [wantA, hg]) h
    · rename_i j want hg
      split at h
      · rename_i d hd
        split at h
        · rename_i b hb
          by_cases hbw : b = want
          · have h1 := h.1 hbw
            subst hbw
            rw [set_getD hb (by simp)] at h1
            exact one s rfl (by unfold wantA; rw [hg]; simp only; rw [hd]; simp only; rw [hb]; simp) h1
          · have hbw' : b = !want := by clear h hb; revert hbw; cases b <;> cases want <;> decide
            have h1 := h.2 hbw'
            rw [← hbw', set_getD hb (by simp)] at h1
            exact pass (by unfold wantA; rw [hg]; simp only; rw [hd]; simp only; rw [hb]; simp [hbw]) h1
        · rename_i vs hb
          exact pass (by unfold wantA; rw [hg]; simp only; rw [hd]; simp only; rw [hb]) h
        · exact h.elim
      · exact h.elim

theorem Tri0.drawE {P : Program} {p : Nat} {id : Nat} {ops : Array Oper} {s : Slots} {H : Heap} {Q : Exit → Slots → Heap → Prop} (hm : P.follows .mixedOrders = true) (Ball free : List Nat) (l : List (Nat × Nat)) (hB : drawEB ops free l = true)
    (h : drawEK P ops.toList Ball free l s H (fun s' H' => Q .normal s' H')) : Tri0 P p (.region id ops true) s H Q := by
  intro γ a w hp hs hr
  refine wp_region_any hm ?_
  simp only [drawEB, Bool.and_eq_true] at hB
  obtain ⟨⟨⟨⟨b1, b2⟩, b3⟩, b4⟩, b5⟩ := hB
  have hl : l.length = ops.size := by simpa using b2
  have h1 := drawE_any (P := P) (K := fun s' H' => Q .normal s' H') l [] (Array.replicate ops.size false) s H (fun j => by rw [Array.getElem?_replicate]; simp) (fun j hj => by simp at hj) (fun j hj => .inr (by
      have := List.all_eq_true.1 b1 j (List.mem_range.2 hj)
      exact List.contains_iff_mem.1 this)) (fun q hq => Nat.blt_eq ▸ (List.all_eq_true.1 b3 q hq)) b4 (fun q hq o ho => by
      have := List.all_eq_true.1 b5 q hq
      rw [ho] at this
      exact this) h
  rw [hl] at h1
  have hs' : Sat γ { w with drawn := w.drawn + 1 } H := ⟨hs.n, fun id b hb => by
    have := hs.blk id b hb
    cases hid : γ.ρ id with
    | none => rw [hid] at this; exact this
    | some x =>
      rw [hid] at this
      obtain ⟨vs, t, g1, g2, g3⟩ := this
      exact ⟨vs, t, g1, g2, BRel.mono (γ := γ) (γ' := γ) (w := w) (w' := { w with drawn := w.drawn + 1 }) (Nat.le_refl _) (fun _ _ => ⟨rfl, rfl⟩) (fun _ h => h) (fun _ _ => rfl) g3⟩, hs.inj, fun x hx => hs.rd x hx⟩
  have hr' : SRel γ { w with drawn := w.drawn + 1 } s a := hr.mono (γ := γ) (γ' := γ) (Nat.le_refl _) (fun _ _ => ⟨rfl, rfl⟩) (fun _ h => h) (fun _ _ => rfl)
  refine anyE_sound (p := p) ops.size _ s H h1 γ a _ hs' hr' hp fun γ' a' w' s' H' q hl ev hs'' hr'' => ?_
  exact ⟨γ', s', H', q, Nat.le_trans hp hl, ⟨fun id hid => ev.ρ id (Nat.lt_of_lt_of_le hid hp), ev.R, ev.R', ev.L, ev.os, ev.tape, ev.output, ev.size, ev.keep⟩, hs'', hr''⟩

theorem Tri.drawESeq {P : Program} {p : Nat} {s : Slots} {H : Heap} {Q : Exit → Slots → Heap → Prop} {id : Nat} {ops : Array Oper} {y : Code} (rid : Nat) (hrid : id = rid) (hm : P.follows .mixedOrders = true) (Ball free : List Nat) (l : List (Nat × Nat)) (hB : drawEB ops free l = true)
    (h : ∀ K : Slots → Heap → Prop, (∀ s' H', Tri P p y s' H' Q → K s' H') → drawEK P ops.toList Ball free l s H K) : Tri P p (.seq (.region id ops true) y) s H Q :=
  Tri.seq ⟨Tri0.drawE hm Ball free l hB (h _ fun _ _ h => h)⟩
theorem Tri.drawE {P : Program} {p : Nat} {s : Slots} {H : Heap} {Q : Exit → Slots → Heap → Prop} {id : Nat} {ops : Array Oper} (rid : Nat) (hrid : id = rid) (hm : P.follows .mixedOrders = true) (Ball free : List Nat) (l : List (Nat × Nat)) (hB : drawEB ops free l = true)
    (h : ∀ K : Slots → Heap → Prop, (∀ s' H', Q .normal s' H' → K s' H') → drawEK P ops.toList Ball free l s H K) : Tri P p (.region id ops true) s H Q :=
  ⟨Tri0.drawE hm Ball free l hB (h _ fun _ _ h => h)⟩
structure DrawS (P : Program) (all : List Oper) (Ball free : List Nat) (l : List (Nat × Nat)) (s : Slots) (H : Heap) (K : Slots → Heap → Prop) : Prop where
  run : drawEK P all Ball free l s H K
theorem DrawS.nil {P : Program} {all : List Oper} {Ball free : List Nat} {s : Slots} {H : Heap} {K : Slots → Heap → Prop} (h : K s H) : DrawS P all Ball free [] s H K := ⟨h⟩
theorem DrawS.step {P : Program} {all : List Oper} {Ball free : List Nat} {q : Nat × Nat} {rest : List (Nat × Nat)} {s : Slots} {H : Heap} {K : Slots → Heap → Prop}
    (h : ∀ K' : Slots → Heap → Prop, (∀ s' H', DrawS P all Ball free rest s' H' K → K' s' H') → drawEK P all Ball free [q] s H K') : DrawS P all Ball free (q :: rest) s H K :=
  ⟨h (fun s' H' => drawEK P all Ball free rest s' H' K) fun _ _ h => h.run⟩
end Go.Ae
end
section
namespace Go.Ae
set_option linter.unusedVariables false
set_option linter.unusedSimpArgs false
theorem Ent.direct {p : Nat} {s s2 : Slots} {H H2 : Heap} (ts : List (Option Nat)) (hpre : preB p ts = true) (hinj : injB ts = true) (hp : p ≤ H2.length)
    (hH : HTell H (lF ts) (lτ ts) H2.length ts H2) (hs : LSub H (lF ts) (lτ ts) H2.length s2 s) : Ent p s H s2 H2 := by
  refine ⟨lF ts, lτ ts, ⟨hp, fun j hj => ?_, fun id hid j hj => ?_, injB_spec hinj, fun j b2 hj => hH.at' j b2 hj⟩, hs⟩
  · have := List.all_eq_true.1 hpre j (List.mem_range.2 hj)
    simpa using this
  · have hm : some id ∈ ts := by
      simp only [lτ] at hj
      cases hh : ts[j]? with
      | none => rw [hh] at hj; cases hj
      | some o => rw [hh] at hj; simp at hj; subst hj; exact List.mem_of_getElem? hh
    have : ts.contains (some id) = true := by simpa using hm
    unfold lF at hid
    rw [this] at hid
    cases hid
/-- The end of a function that was given p blocks. -/
theorem EndK.eqp {α : Type} {f : α → AV} {g : α → Heap} {P : Program} {p : Nat} {rs : List ResultVar} {s : Slots} {H : Heap} {vs : List AV} {x : α} (y : α) (ts : List (Option Nat)) {e : Exit} (he : e = .normal ∨ e = .ret) (h : resAll P s H rs = some vs)
    (hpre : preB p ts = true) (hinj : injB ts = true) (hp : p ≤ (g y).length) (hH : HTell H (lF ts) (lτ ts) (g y).length ts (g y)) (hv : VSub H (lF ts) (lτ ts) (g y).length (f y) (resOne vs)) (hx : x = y) : EndK P p rs (fun v H' => v = f x ∧ H' = g x) e s H := by
  subst hx
  exact EndK.tell he h (Ent.direct ts hpre hinj hp hH (LSub.cons' hv LSub.nil')) ⟨rfl, rfl⟩
def ballOf (s : Slots) : List Nat → List Nat
  | [] => []
  | t :: ts => match idOf (s.getD t .any) with
    | some id => id :: ballOf s ts
    | none => ballOf s ts
attribute [go_sem ↓] drawEK
attribute [go_sem] rnV rnL Blk.rn selIdx selσ mergeAt mergeH ballOf oneE loadIn KeepL keepsK List.contains_cons List.contains_nil
end Go.Ae
namespace Go.Ae
theorem wr_byte (x : UInt8) : wr .i64 (x.toNat : Int) = (x.toNat : Int) := by
  have := x.toNat_lt
  rw [wr_id] <;> omega
attribute [go_sem] wr_byte
theorem tmod_ge {a b : Int} (h : 0 ≤ a) : 0 ≤ a.tmod b := Int.tmod_nonneg b h
theorem tmod_lt {a b : Int} (hb : 0 < b) : a.tmod b < b := Int.tmod_lt_of_pos a hb
theorem tmod_ltN {a : Int} {n : Nat} (h : 0 ≤ a) (hb : 0 < (n : Int)) : (a.tmod n).toNat < n := by
  have h1 := tmod_ge (b := n) h
  have h2 := tmod_lt (a := a) hb
  omega
end Go.Ae
namespace Go.Ae
theorem Tri.fastSeqN {P : Program} {p : Nat} {s : Slots} {H : Heap} {Q : Exit → Slots → Heap → Prop} {id : Nat} {ops : Array Oper} {y : Code} (rid : Nat) (hrid : id = rid) (hm : P.follows .mixedOrders = true) (hB : fastB ops = true)
    (h : ∀ K : Slots → Heap → Prop, (∀ s' H', Tri P p y s' H' Q → K s' H') → quietK P ops.toList ops.toList s H K) : Tri P p (.seq (.region id ops true) y) s H Q := Tri.fastSeq hm hB h
theorem Tri.fastN {P : Program} {p : Nat} {s : Slots} {H : Heap} {Q : Exit → Slots → Heap → Prop} {id : Nat} {ops : Array Oper} (rid : Nat) (hrid : id = rid) (hm : P.follows .mixedOrders = true) (hB : fastB ops = true)
    (h : ∀ K : Slots → Heap → Prop, (∀ s' H', Q .normal s' H' → K s' H') → quietK P ops.toList ops.toList s H K) : Tri P p (.region id ops true) s H Q := Tri.fast hm hB h
end Go.Ae
namespace Go.Ae
theorem Tri.heavySeqN {P : Program} {p : Nat} {s : Slots} {H : Heap} {Q : Exit → Slots → Heap → Prop} {id : Nat} {ops : Array Oper} {y : Code} (rid : Nat) (hrid : id = rid) (hm : P.follows .mixedOrders = true) (roots free : List Nat) (l : List (Nat × Nat)) (hB : drawEB ops free l = true)
    (h : ∀ K : Slots → Heap → Prop, (∀ s' H', Tri P p y s' H' Q → K s' H') → DrawS P ops.toList (ballOf s roots) free l s H K) : Tri P p (.seq (.region id ops true) y) s H Q :=
  Tri.drawESeq rid hrid hm (ballOf s roots) free l hB fun K hK => (h K hK).run
theorem Tri.heavyN {P : Program} {p : Nat} {s : Slots} {H : Heap} {Q : Exit → Slots → Heap → Prop} {id : Nat} {ops : Array Oper} (rid : Nat) (hrid : id = rid) (hm : P.follows .mixedOrders = true) (roots free : List Nat) (l : List (Nat × Nat)) (hB : drawEB ops free l = true)
    (h : ∀ K : Slots → Heap → Prop, (∀ s' H', Q .normal s' H' → K s' H') → DrawS P ops.toList (ballOf s roots) free l s H K) : Tri P p (.region id ops true) s H Q :=
  Tri.drawE rid hrid hm (ballOf s roots) free l hB fun K hK => (h K hK).run
end Go.Ae
end
section
namespace Go.Ae
theorem cont1 {a : Nat} : [a].contains a = true := by simp
def dropAt (ids : List Nat) : Nat → Heap → Heap
  | _, [] => []
  | j, b :: H => (if ids.contains j then none else b) :: dropAt ids (j + 1) H
theorem dropAt_len (ids : List Nat) : ∀ (j : Nat) (H : Heap), (dropAt ids j H).length = H.length
  | _, [] => rfl
  | j, b :: H => by simp only [dropAt, List.length_cons, dropAt_len ids (j + 1) H]
theorem dropAt_get (ids : List Nat) : ∀ (i : Nat) (H : Heap) (k : Nat), (dropAt ids i H).getD k none = if ids.contains (i + k) then none else H.getD k none
  | _, [], k => by simp [dropAt]
  | i, b :: H, 0 => by simp [dropAt]
  | i, b :: H, k + 1 => by
    have := dropAt_get ids (i + 1) H k
    simp only [dropAt, List.getD_cons_succ, this]
    rw [show i + 1 + k = i + (k + 1) by omega]
theorem dropIds_eq (ids : List Nat) (H : Heap) : dropIds ids H = dropAt ids 0 H := by
  apply List.ext_getElem?
  intro k
  by_cases hk : k < H.length
  · have h1 := dropAt_get ids 0 H k
    have h2 : (dropAt ids 0 H)[k]? = some ((dropAt ids 0 H).getD k none) := by
      rw [List.getD_eq_getElem?_getD, List.getElem?_eq_getElem (by rw [dropAt_len]; exact hk)]; rfl
    rw [h2, h1, Nat.zero_add]
    simp [dropIds, hk, Heap.at]
  · rw [List.getElem?_eq_none (by rw [dropIds_len]; omega), List.getElem?_eq_none (by rw [dropAt_len]; omega)]
theorem CallA.gvA {P : Program} {f : FuncId} {args args2 : List AV} {H : Heap} {K : AV → Heap → Prop} {V : AV} (ids : List Nat) (h : Gives P f args2 V)
    (hsub : LSub H (fun id => ids.contains id = true) (fun _ => none) 0 args2 args) (hK : K V (dropAt ids 0 H)) : CallA P f args H K :=
  CallA.gv ids h hsub (dropIds_eq ids H ▸ hK)
attribute [go_sem] dropAt
end Go.Ae
namespace Go.Ae
theorem VSub.frzC {H : Heap} {F : Nat → Prop} {τ : Nat → Option Nat} {n id len cap : Nat} {α : Type} {i : Inhabited α} {k : Nat} {enc : α → List RV} {xs : List α} {b : Blk} (hF : F id) (hb : H.at id = some b) (hk : b.k = k) (hn : len ≤ b.L.length) (hx : RowsAre enc xs (b.L.take len)) (hl : len = xs.length) :
    VSub H F τ n (.r (.rd k enc xs)) (.slc id k 0 len cap) := by
  simp only [VSub, RSub]
  refine ⟨hF, α, inferInstance, enc, xs, b, rfl, hl.symm, hb, hk, by omega, ?_⟩
  rw [List.drop_zero]
  exact hx
end Go.Ae
namespace Go.Ae
theorem RowsAre.take {α : Type} {enc : α → List RV} {xs : List α} {L : List (List AV)} {n : Nat} (h : RowsAre enc xs L) : RowsAre enc (xs.take n) (L.take n) := by
  unfold RowsAre at *; subst h; rw [List.map_take]
theorem RowsAre.drop {α : Type} {enc : α → List RV} {xs : List α} {L : List (List AV)} {n : Nat} (h : RowsAre enc xs L) : RowsAre enc (xs.drop n) (L.drop n) := by
  unfold RowsAre at *; subst h; rw [List.map_drop]
theorem RowsAre.spl {α : Type} {enc : α → List RV} {xs ys : List α} {L S : List (List AV)} {p m : Nat} (h1 : RowsAre enc xs (L.take p)) (h2 : RowsAre enc ys S) (hp : p ≤ L.length) (hm : m = p + S.length) : RowsAre enc (xs ++ ys) ((splice L p S).take m) := by
  have h := RowsAre.app h1 h2
  unfold splice
  rw [List.take_append_of_le_length (by rw [List.length_append, List.length_take]; omega), List.take_of_length_le (by rw [List.length_append, List.length_take]; omega)]
  exact h
end Go.Ae
end
section
namespace Go.Ae
/-- A test that is looked at later. -/
def BoolIs (b : Bool) : Prop := b = true
theorem BoolIs.mk {b : Bool} (h : b = true) : BoolIs b := h
theorem EndK.eqq {α : Type} {f : α → AV} {g : α → Heap} {P : Program} {p : Nat} {rs : List ResultVar} {s : Slots} {H : Heap} {vs : List AV} {x : α} (y : α) (ts : List (Option Nat)) {e : Exit} (he : e = .normal ∨ e = .ret) (h : resAll P s H rs = some vs)
    (hpre : BoolIs (preB p ts)) (hinj : BoolIs (injB ts)) (hp : p ≤ (g y).length) (hH : HTell H (lF ts) (lτ ts) (g y).length ts (g y)) (hv : VSub H (lF ts) (lτ ts) (g y).length (f y) (resOne vs)) (hx : x = y) : EndK P p rs (fun v H' => v = f x ∧ H' = g x) e s H :=
  EndK.eqp y ts he h hpre hinj hp hH hv hx
theorem CallA.frameq {P : Program} {f : FuncId} {args args0 : List AV} {H H0 : Heap} {K : AV → Heap → Prop} {Post : AV → Heap → Prop} (sel fz : List Nat) (p : Nat) (h : Does P f p args0 H0 Post)
    (hp : p ≤ H0.length) (hinj : BoolIs (injB (sel.map some))) (hfz : BoolIs (fz.all fun i => !sel.contains i))
    (hH : HTell H (FZ fz) (lτ (sel.map some)) H0.length (sel.map some) H0) (hall : H0.all Option.isSome = true) (hlen : sel.length = H0.length) (hargs : LSub H (FZ fz) (lτ (sel.map some)) H0.length args0 args)
    (hK : ∀ v H', Post v H' → p ≤ H'.length → K (rnV (selσ sel p H.length) v) (mergeH sel fz p H H')) : CallA P f args H K :=
  CallA.frame sel fz p h hp hinj hfz hH hall hlen hargs hK
theorem cont2a {a b : Nat} : [a, b].contains a = true := by simp
theorem cont2b {a b : Nat} : [a, b].contains b = true := by simp
theorem cont3a {a b c : Nat} : [a, b, c].contains a = true := by simp
theorem cont3b {a b c : Nat} : [a, b, c].contains b = true := by simp
theorem cont3c {a b c : Nat} : [a, b, c].contains c = true := by simp
theorem Does.slcHead {P : Program} {f : FuncId} {p id k off len : Nat} {rest : List AV} {H : Heap} {Post : AV → Heap → Prop} (h0 : 0 < len) (h1 : ∀ c, len ≤ c → Does P f p (.slc id k off len c :: rest) H Post) :
    Does P f p (.sl id k off len :: rest) H Post := by
  intro γ w us hs hl hr
  have hz : 0 < us.size := by rw [← hl]; simp
  have hu : us[0]? = some us[0] := Array.getElem?_eq_getElem hz
  have hv := hr 0 _ _ rfl hu
  generalize us[0] = u at hu hv
  cases hv with
  | slz => omega
  | sl _ _ _ _ x c a1 a2 a3 a4 =>
    refine h1 c a3 γ w us hs hl fun i c' v b1 b2 => ?_
    cases i with
    | zero =>
      simp only [List.getElem?_cons_zero, Option.some.injEq] at b1
      rw [hu] at b2
      cases b2
      subst b1
      exact .slc _ _ _ _ _ _ a1 a2 a3 a4
    | succ i => exact hr (i + 1) c' v b1 b2
theorem VSub.slCD {H : Heap} {F : Nat → Prop} {τ : Nat → Option Nat} {n id id' k off len len' cap : Nat} (h0 : Nat.blt id n = true) (h2 : τ id = some id') (h : LenEq len' len) : VSub H F τ n (.sl id k off len') (.slc id' k off len cap) := by
  have h1 : id < n := by simpa using h0
  unfold LenEq at h
  subst h; simp only [VSub]; simp [h1, h2]
theorem RowsAre.of {α : Type} {enc : α → List RV} {xs : List α} {L : List (List AV)} (h : L = xs.map fun x => (enc x).map AV.r) : RowsAre enc xs L := h
def cellIds : List AV → List Nat
  | [] => []
  | v :: vs => match idOf v with
    | some id => id :: cellIds vs
    | none => cellIds vs
/-- The blocks that slots name, and those that their cells name. -/
def ballX (s : Slots) (H : Heap) : List Nat → List Nat
  | [] => []
  | t :: ts => match idOf (s.getD t .any) with
    | some id => id :: (match H.at id with
      | some (.cells l) => cellIds l ++ ballX s H ts
      | _ => ballX s H ts)
    | none => ballX s H ts
theorem Tri.heavySeqX {P : Program} {p : Nat} {s : Slots} {H : Heap} {Q : Exit → Slots → Heap → Prop} {id : Nat} {ops : Array Oper} {y : Code} (rid : Nat) (hrid : id = rid) (hm : P.follows .mixedOrders = true) (roots free : List Nat) (l : List (Nat × Nat)) (hB : drawEB ops free l = true)
    (h : ∀ K : Slots → Heap → Prop, (∀ s' H', Tri P p y s' H' Q → K s' H') → DrawS P ops.toList (ballX s H roots) free l s H K) : Tri P p (.seq (.region id ops true) y) s H Q :=
  Tri.drawESeq rid hrid hm (ballX s H roots) free l hB fun K hK => (h K hK).run
theorem Tri.heavyX {P : Program} {p : Nat} {s : Slots} {H : Heap} {Q : Exit → Slots → Heap → Prop} {id : Nat} {ops : Array Oper} (rid : Nat) (hrid : id = rid) (hm : P.follows .mixedOrders = true) (roots free : List Nat) (l : List (Nat × Nat)) (hB : drawEB ops free l = true)
    (h : ∀ K : Slots → Heap → Prop, (∀ s' H', Q .normal s' H' → K s' H') → DrawS P ops.toList (ballX s H roots) free l s H K) : Tri P p (.region id ops true) s H Q :=
  Tri.drawE rid hrid hm (ballX s H roots) free l hB fun K hK => (h K hK).run
attribute [go_sem] ballX cellIds
end Go.Ae
end
section
/-! Calls that are lent blocks of ours and hand back nothing that is read only. -/
namespace Go.Ae
set_option linter.unusedVariables false
mutual
/-- Nothing in it is read only. -/
def AFree : AV → Prop
  | .r (.lit _) => True
  | @AV.r (@RV.rd _ _ _ _ _) => False
  | @AV.rp _ _ _ _ _ _ _ => False
  | .agg cs => AFreeL cs
  | .tup cs => AFreeL cs
  | .fn _ cs => AFreeL cs
  | _ => True
def AFreeL : List AV → Prop
  | [] => True
  | c :: cs => AFree c ∧ AFreeL cs
end
theorem AFreeL.get : ∀ {cs : List AV}, AFreeL cs → ∀ (i : Nat) (c : AV), cs[i]? = some c → AFree c
  | [], _, i, c, h => by simp at h
  | c :: cs, h, 0, d, hd => by simp only [AFreeL] at h; simp at hd; subst hd; exact h.1
  | c :: cs, h, i + 1, d, hd => by simp only [AFreeL] at h; exact AFreeL.get h.2 i d (by simpa using hd)
def BFree (b : Blk) : Prop := ∀ row, row ∈ b.L → ∀ c, c ∈ row → AFree c
theorem AFree.rel {γ : Gh} {w : World} {v : AV} {u : Value} {R' : Nat → Prop} (hf : AFree v) (h : Rel γ w v u) : Rel { γ with R := R' } w v u := by
  induction h with
  | any v => exact .any v
  | r h => cases h with
    | lit v => exact .r (.lit _)
    | rd0 => simp only [AFree] at hf
    | rd => simp only [AFree] at hf
  | agg cs vs hl hr ih => simp only [AFree] at hf; exact .agg cs vs hl fun i c v h1 h2 => ih i c v h1 h2 (hf.get i c h1)
  | tup cs vs hl hr ih => simp only [AFree] at hf; exact .tup cs vs hl fun i c v h1 h2 => ih i c v h1 h2 (hf.get i c h1)
  | fn g cs vs hl hr ih => simp only [AFree] at hf; exact .fn g cs vs hl fun i c v h1 h2 => ih i c v h1 h2 (hf.get i c h1)
  | ptr id k i f x h1 h2 => exact .ptr id k i f x h1 h2
  | sl id k off len x c h1 h2 h3 h4 => exact .sl id k off len x c h1 h2 h3 h4
  | slc id k off len x c h1 h2 h3 h4 => exact .slc id k off len x c h1 h2 h3 h4
  | slz id k off A h1 => exact .slz id k off A h1
  | mt A => exact .mt A
  | rp => simp only [AFree] at hf
theorem CallA.frameL {P : Program} {f : FuncId} {args args0 : List AV} {H H0 : Heap} {K : AV → Heap → Prop} {Post : AV → Heap → Prop} (sel fz : List Nat) (p : Nat) (h : Does P f p args0 H0 Post)
    (hp : p ≤ H0.length) (hinj : injB (sel.map some) = true) (hfz : (fz.all fun i => !sel.contains i) = true)
    (hH : HTell H (FZ fz) (lτ (sel.map some)) H0.length (sel.map some) H0) (hall : H0.all Option.isSome = true) (hlen : sel.length = H0.length) (hargs : LSub H (FZ fz) (lτ (sel.map some)) H0.length args0 args)
    (hfree : ∀ v H', Post v H' → AFree v ∧ ∀ id b, H'.at id = some b → BFree b)
    (hK : ∀ v H', Post v H' → p ≤ H'.length → K (rnV (selσ sel p H.length) v) (mergeH sel [] p H H')) : CallA P f args H K := by
  refine ⟨fun γ w us hs hl hr => ?_⟩
  have hτ : ∀ j, lτ (sel.map some) j = sel[j]? := fun j => by
    simp only [lτ, List.getElem?_map]
    cases sel[j]? <;> rfl
  have hnf : ∀ id, fz.contains id = true → id ∉ sel := fun id hid hm => by
    have := List.all_eq_true.1 hfz id (by simpa using hid)
    simp only [Bool.not_eq_true'] at this
    have h2 : sel.contains id = true := by simpa using hm
    rw [this] at h2
    cases h2
  have hsub : HSub 0 H (FZ fz) (lτ (sel.map some)) H0 :=
    ⟨Nat.zero_le _, fun j hj => absurd hj (Nat.not_lt_zero _), fun id hid j hj => by
      rw [hτ] at hj
      exact hnf id hid (List.mem_of_getElem? hj), injB_spec hinj, fun j b2 hj => hH.at' j b2 hj⟩
  obtain ⟨h3, h4⟩ := hsub.sat hs
  generalize hγ0 : γ.re H (FZ fz) (lτ (sel.map some)) H0.length = γ0 at h3 h4
  obtain ⟨g1, g2⟩ := hargs.get
  -- the given blocks
  have hsel : ∀ (j i : Nat), sel[j]? = some i → ∃ b, H.at i = some b := fun j i hj => by
    have hlt : j < H0.length := by rw [← hlen]; exact (List.getElem?_eq_some_iff.1 hj).1
    have h5 := List.all_eq_true.1 hall (H0[j]) (List.getElem_mem hlt)
    obtain ⟨b2, hb2⟩ := Option.isSome_iff_exists.1 h5
    have h6 : H0.at j = some b2 := by
      unfold Heap.at
      rw [List.getD_eq_getElem?_getD, List.getElem?_eq_getElem hlt, hb2]; rfl
    have h7 := hH.at' j b2 h6
    rw [hτ, hj] at h7
    obtain ⟨b, hb, _⟩ := h7
    exact ⟨b, hb⟩
  have hL0 : ∀ x, γ0.L H0 x → ∃ (j i : Nat) (b : Blk), sel[j]? = some i ∧ H.at i = some b ∧ γ.ρ i = some x := by
    rintro x ⟨j, b2, h5, h6⟩
    rw [← hγ0] at h6
    simp only [Gh.re, hτ] at h6
    cases hj : sel[j]? with
    | none => rw [hj] at h6; cases h6
    | some i =>
      rw [hj, Option.bind_some] at h6
      obtain ⟨b, hb⟩ := hsel j i hj
      exact ⟨j, i, b, hj, hb, h6⟩
  have hR0 : ∀ x, γ0.R x → γ.R x ∨ ∃ id b, fz.contains id = true ∧ H.at id = some b ∧ γ.ρ id = some x := fun x hx => by rw [← hγ0] at hx; exact hx
  refine (h γ0 w us h3 (g1.trans hl) fun i c v h1 h2 => ?_).mono ?_
  · have hi : i < args.length := by rw [← g1]; exact (List.getElem?_eq_some_iff.1 h1).1
    rw [← hγ0]
    exact VSub.rel hs (hr i _ v (List.getElem?_eq_getElem hi) h2) (g2 i c _ h1 (List.getElem?_eq_getElem hi))
  rintro e w' ⟨u, γ', v, H', rfl, hP, hp', ev, hs', hv⟩
  have hn' : γ'.n = H'.length := hs'.n
  let σ := selσ sel p H.length
  let γ2 : Gh := { ρ := fun id => if id < H.length then γ.ρ id else γ'.ρ (id - H.length + p), m := fun id => if id < H.length then γ.m id else γ'.m (id - H.length + p), R := γ.R, n := H.length + (H'.length - p) }
  have hρp : ∀ j i, j < p → sel[j]? = some i → γ'.ρ j = γ.ρ i ∧ γ'.m j = γ.m i := fun j i hj hi => by
    have := ev.ρ j hj
    rw [← hγ0] at this
    simp only [Gh.re, hτ, hi, Option.bind_some] at this
    exact this
  have hn : ∀ j, j < γ'.n → σ j < γ2.n ∧ γ2.ρ (σ j) = γ'.ρ j ∧ γ2.m (σ j) = γ'.m j := fun j hj => by
    rw [hn'] at hj
    show selσ sel p H.length j < γ2.n ∧ γ2.ρ (selσ sel p H.length j) = γ'.ρ j ∧ γ2.m (selσ sel p H.length j) = γ'.m j
    unfold selσ
    split
    · rename_i hjp
      have hjl : j < sel.length := by omega
      have hi : sel[j]? = some (sel.getD j 0) := by rw [List.getD_eq_getElem?_getD, List.getElem?_eq_getElem hjl]; rfl
      obtain ⟨b, hb⟩ := hsel j _ hi
      have hlt := at_lt hb
      obtain ⟨e1, e2⟩ := hρp j _ hjp hi
      refine ⟨by show sel.getD j 0 < H.length + (H'.length - p); omega, ?_, ?_⟩
      · show (if sel.getD j 0 < H.length then γ.ρ (sel.getD j 0) else _) = _
        rw [if_pos hlt, e1]
      · show (if sel.getD j 0 < H.length then γ.m (sel.getD j 0) else _) = _
        rw [if_pos hlt, e2]
    · rename_i hjp
      have e1 : H.length + (j - p) - H.length + p = j := by omega
      refine ⟨by show H.length + (j - p) < H.length + (H'.length - p); omega, ?_, ?_⟩
      · show (if H.length + (j - p) < H.length then _ else γ'.ρ (H.length + (j - p) - H.length + p)) = _
        rw [if_neg (by omega), e1]
      · show (if H.length + (j - p) < H.length then _ else γ'.m (H.length + (j - p) - H.length + p)) = _
        rw [if_neg (by omega), e1]
  have hrel : ∀ v u, AFree v → Rel γ' w' v u → Rel γ2 w' (rnV σ v) u := fun v u hf h => rn_rel (γ' := { γ' with R := γ.R }) hn (fun _ h => h) (hf.rel h)
  -- what stands in the heap behind the call
  have hat : ∀ id b, (mergeH sel [] p H H').at id = some b → (∃ j c, j < H'.length ∧ H'.at j = some c ∧ σ j = id ∧ b = c.rn σ) ∨ (id < H.length ∧ H.at id = some b ∧ id ∉ sel) := by
    intro id b hb
    unfold mergeH at hb
    rcases Nat.lt_or_ge id H.length with hlt | hge
    · rw [at_append_old (by rw [mergeAt_len]; exact hlt)] at hb
      unfold Heap.at at hb
      rw [mergeAt_get _ _ _ _ _ _ _ hlt, Nat.zero_add] at hb
      cases hi : selIdx (sel.take p) id 0 with
      | some j =>
        rw [hi] at hb
        simp only [Option.map_eq_some_iff] at hb
        obtain ⟨c, hc, rfl⟩ := hb
        obtain ⟨_, h6⟩ := selIdx_some hi
        rw [Nat.sub_zero] at h6
        have hjp : j < p := by
          rcases Nat.lt_or_ge j p with h7 | h7
          · exact h7
          · rw [List.getElem?_take, if_neg (by omega)] at h6; cases h6
        rw [List.getElem?_take, if_pos hjp] at h6
        refine .inl ⟨j, c, at_lt hc, hc, ?_, rfl⟩
        show selσ sel p H.length j = id
        unfold selσ
        rw [if_pos hjp, List.getD_eq_getElem?_getD, h6]; rfl
      | none =>
        rw [hi] at hb
        simp only at hb
        split at hb
        · cases hb
        · rename_i hc
          have h7 := selIdx_none hi
          have h8 : id ∉ sel.drop p := fun hh => hc (by simp; exact hh)
          refine .inr ⟨hlt, hb, fun hm => ?_⟩
          rw [← List.take_append_drop p sel] at hm
          rcases List.mem_append.1 hm with hm | hm
          · exact h7 hm
          · exact h8 hm
    · rw [at_append_new (by rw [mergeAt_len]; exact hge), mergeAt_len] at hb
      obtain ⟨c, hc, rfl⟩ := at_map hb
      have hc' : H'.at (p + (id - H.length)) = some c := by
        unfold Heap.at at hc ⊢
        rw [List.getD_eq_getElem?_getD, List.getElem?_drop] at hc
        rw [List.getD_eq_getElem?_getD]; exact hc
      refine .inl ⟨p + (id - H.length), c, at_lt hc', hc', ?_, rfl⟩
      show selσ sel p H.length (p + (id - H.length)) = id
      unfold selσ
      rw [if_neg (by omega)]
      omega
  have hnotsel : ∀ id b x, H.at id = some b → γ.ρ id = some x → id ∉ sel → ¬ γ0.L H0 x := fun id b x hb hx hns hl => by
    obtain ⟨j, i, b', h5, h6, h7⟩ := hL0 x hl
    have := hs.inj id i b b' x hb h6 hx h7
    subst this
    exact hns (List.mem_of_getElem? h5)
  have hLL : ∀ x, γ0.L H0 x → γ.L H x := fun x hx => by
    obtain ⟨j, i, b', h5, h6, h7⟩ := hL0 x hx
    exact ⟨i, b', h6, h7⟩
  have hkR : ∀ x, γ.R x → w'.heap[x]? = w.heap[x]? := fun x hx => ev.keep x (hs.rd x hx).1 fun hl => (hs.rd x hx).2 (hLL x hl)
  have hρ2 : ∀ id, id < H.length → γ2.ρ id = γ.ρ id ∧ γ2.m id = γ.m id := fun id hid => by simp [γ2, hid]
  have hL2 : ∀ x, γ2.L (mergeH sel [] p H H') x → γ'.L H' x ∨ ∃ id b, id < H.length ∧ H.at id = some b ∧ id ∉ sel ∧ γ.ρ id = some x := by
    rintro x ⟨id, b, h5, h6⟩
    rcases hat id b h5 with ⟨j, c, hj, hc, rfl, rfl⟩ | ⟨hlt, hb, hns⟩
    · rw [(hn j (by rw [hn']; exact hj)).2.1] at h6
      exact .inl ⟨j, c, hc, h6⟩
    · rw [(hρ2 id hlt).1] at h6
      exact .inr ⟨id, b, hlt, hb, hns, h6⟩
  have hF := hfree v H' hP
  refine ⟨u, γ2, _, _, rfl, hK v H' hP hp', by simp [mergeH, mergeAt_len], ⟨fun id hid => hρ2 id hid, fun _ h => h, fun x hx => .inl hx, fun x hx => ?_, ev.os, ev.tape, ev.output, ev.size, fun x hx hl => ev.keep x hx fun h => hl (hLL x h)⟩, ⟨?_, fun id b hb => ?_, fun id id' b b' x h5 h6 h7 h8 => ?_, fun x hx => ?_⟩, hrel v u hF.1 hv⟩
  · rcases hL2 x hx with h5 | ⟨id, b, _, h5, _, h6⟩
    · rcases ev.L x h5 with h6 | h6
      · exact .inl (hLL x h6)
      · exact .inr h6
    · exact .inl ⟨id, b, h5, h6⟩
  · simp [γ2, mergeH, mergeAt_len]
  · rcases hat id b hb with ⟨j, c, hj, hc, rfl, rfl⟩ | ⟨hlt, hb', hns⟩
    · obtain ⟨_, e1, e2⟩ := hn j (by rw [hn']; exact hj)
      rw [e1, e2]
      have := hs'.blk j c hc
      unfold BOk at this ⊢
      cases hid : γ'.ρ j with
      | none =>
        rw [hid] at this
        simp only at this ⊢
        rw [Blk.rn_L, this]; rfl
      | some x =>
        rw [hid] at this
        obtain ⟨vs, t, a1, a2, a4⟩ := this
        refine ⟨vs, t, a1, a2, ⟨fun i row hr => ?_, by rw [Blk.rn_L, Blk.rn_k, List.length_map]; exact a4.sz, fun i row f v u hr hf hu => ?_⟩⟩
        · rw [Blk.rn_L, List.getElem?_map, Option.map_eq_some_iff] at hr
          obtain ⟨r0, h5, rfl⟩ := hr
          rw [Blk.rn_k, rnL_eq, List.length_map]
          exact a4.len i r0 h5
        · rw [Blk.rn_L, List.getElem?_map, Option.map_eq_some_iff] at hr
          obtain ⟨r0, h5, rfl⟩ := hr
          rw [rnL_eq, List.getElem?_map, Option.map_eq_some_iff] at hf
          obtain ⟨v0, h6, rfl⟩ := hf
          rw [Blk.rn_k] at hu
          exact hrel _ _ (hF.2 j c hc r0 (List.mem_of_getElem? h5) v0 (List.mem_of_getElem? h6)) (a4.rel i r0 f v0 u h5 h6 hu)
    · rw [(hρ2 id hlt).1, (hρ2 id hlt).2]
      have := hs.blk id b hb'
      unfold BOk at this ⊢
      cases hid : γ.ρ id with
      | none => rw [hid] at this; exact this
      | some x =>
        rw [hid] at this
        obtain ⟨vs, t, a1, a2, a3⟩ := this
        exact ⟨vs, t, by rw [ev.keep x (hs.lt hb' hid) (hnotsel id b x hb' hid hns)]; exact a1, a2, BRel.mono (γ := γ) (γ' := γ2) (by show γ.n ≤ H.length + (H'.length - p); rw [hs.n]; omega)
          (fun i hi => by rw [hs.n] at hi; exact hρ2 i hi) (fun _ h => h) hkR a3⟩
  · have cross : ∀ (j : Nat) (c : Blk) (i : Nat) (b : Blk), H'.at j = some c → γ'.ρ j = some x → H.at i = some b → i ∉ sel → γ.ρ i = some x → False := fun j c i b a1 a2 a3 a4 a5 => by
      rcases ev.L x ⟨j, c, a1, a2⟩ with h9 | h9
      · exact hnotsel i b x a3 a5 a4 h9
      · have := hs.lt a3 a5
        omega
    rcases hat id b h5 with ⟨j, c, hj, hc, rfl, rfl⟩ | ⟨hlt, hb', hns⟩ <;> rcases hat id' b' h6 with ⟨j', c', hj', hc', rfl, rfl⟩ | ⟨hlt', hb'', hns'⟩
    · rw [(hn j (by rw [hn']; exact hj)).2.1] at h7
      rw [(hn j' (by rw [hn']; exact hj')).2.1] at h8
      rw [hs'.inj j j' c c' x hc hc' h7 h8]
    · rw [(hn j (by rw [hn']; exact hj)).2.1] at h7
      rw [(hρ2 id' hlt').1] at h8
      exact (cross j c id' b' hc h7 hb'' hns' h8).elim
    · rw [(hρ2 id hlt).1] at h7
      rw [(hn j' (by rw [hn']; exact hj')).2.1] at h8
      exact (cross j' c' id b hc' h8 hb' hns h7).elim
    · rw [(hρ2 id hlt).1] at h7
      rw [(hρ2 id' hlt').1] at h8
      exact hs.inj id id' b b' x hb' hb'' h7 h8
  · refine ⟨Nat.lt_of_lt_of_le (hs.rd x hx).1 ev.size, fun hl => ?_⟩
    rcases hL2 x hl with ⟨j, c, h5, h5'⟩ | ⟨id, b, hlt, hb, hns, hid⟩
    · rcases ev.L x ⟨j, c, h5, h5'⟩ with h6 | h6
      · exact (hs.rd x hx).2 (hLL x h6)
      · have := (hs.rd x hx).1
        omega
    · exact (hs.rd x hx).2 ⟨id, b, hb, hid⟩
def LitR : RV → Prop
  | .lit _ => True
  | _ => False
theorem BFree.rows {α : Type} {_i : Inhabited α} {k : Nat} {enc : α → List RV} {xs : List α} (h : ∀ x c, c ∈ enc x → LitR c) : BFree (.rows k (fun q => (enc q).map AV.r) xs) := by
  intro row hr c hc
  have hr' : row ∈ xs.map fun q => (enc q).map AV.r := hr
  obtain ⟨x, _, rfl⟩ := List.mem_map.1 hr'
  obtain ⟨d, hd, rfl⟩ := List.mem_map.1 hc
  have := h x d hd
  cases d with
  | lit v => simp only [AFree]
  | rd => simp only [LitR] at this
theorem BFree.raw {k : Nat} {L : List (List AV)} (h : ∀ row, row ∈ L → ∀ c, c ∈ row → AFree c) : BFree (.raw k L) := h
def HFree : Heap → Prop
  | [] => True
  | none :: H => HFree H
  | some b :: H => BFree b ∧ HFree H
theorem HFree.at : ∀ {H : Heap}, HFree H → ∀ (id : Nat) (b : Blk), Heap.at H id = some b → BFree b
  | [], _, id, b, hb => by simp [Heap.at] at hb
  | none :: H, h, 0, b, hb => by simp [Heap.at] at hb
  | none :: H, h, id + 1, b, hb => by
    have h' : HFree H := h
    exact HFree.at h' id b (by simpa [Heap.at] using hb)
  | some b0 :: H, h, 0, b, hb => by
    have h' : BFree b0 ∧ HFree H := h
    simp [Heap.at] at hb; subst hb; exact h'.1
  | some b0 :: H, h, id + 1, b, hb => by
    have h' : BFree b0 ∧ HFree H := h
    exact HFree.at h'.2 id b (by simpa [Heap.at] using hb)
theorem freeP {V : AV} {L : Heap} (hV : AFree V) (hL : HFree L) : ∀ v H', v = V ∧ H' = L → AFree v ∧ ∀ id b, Heap.at H' id = some b → BFree b := by
  rintro v H' ⟨rfl, rfl⟩
  exact ⟨hV, fun id b hb => hL.at id b hb⟩
theorem CallA.frameLq {P : Program} {f : FuncId} {args args0 : List AV} {H H0 : Heap} {K : AV → Heap → Prop} {Post : AV → Heap → Prop} (sel fz : List Nat) (p : Nat) (h : Does P f p args0 H0 Post)
    (hp : p ≤ H0.length) (hinj : BoolIs (injB (sel.map some))) (hfz : BoolIs (fz.all fun i => !sel.contains i))
    (hH : HTell H (FZ fz) (lτ (sel.map some)) H0.length (sel.map some) H0) (hall : H0.all Option.isSome = true) (hlen : sel.length = H0.length) (hargs : LSub H (FZ fz) (lτ (sel.map some)) H0.length args0 args)
    (hfree : ∀ v H', Post v H' → AFree v ∧ ∀ id b, Heap.at H' id = some b → BFree b)
    (hK : ∀ v H', Post v H' → p ≤ H'.length → K (rnV (selσ sel p H.length) v) (mergeH sel [] p H H')) : CallA P f args H K :=
  CallA.frameL sel fz p h hp hinj hfz hH hall hlen hargs hfree hK
theorem HFree.nil : HFree [] := trivial
theorem HFree.cons {b : Blk} {H : Heap} (hb : BFree b) (h : HFree H) : HFree (some b :: H) := ⟨hb, h⟩
end Go.Ae
end
section
/-! A rest of an own list, handed back to be read; and the end of a law's row. -/
namespace Go.Ae
theorem VSub.frzO {H : Heap} {F : Nat → Prop} {τ : Nat → Option Nat} {n id off len : Nat} {α : Type} {i : Inhabited α} {k : Nat} {enc : α → List RV} {xs : List α} {b : Blk} (hF : F id) (hb : H.at id = some b) (hk : b.k = k)
    (hx : RowsAre enc xs (b.L.drop off)) (hl : b.L.length = off + len) : VSub H F τ n (.r (.rd k enc xs)) (.sl id k off len) := by
  have hxl : xs.length = len := by
    have := congrArg List.length hx
    simp only [List.length_drop, List.length_map] at this
    omega
  simp only [VSub, RSub]
  refine ⟨hF, α, inferInstance, enc, xs, b, rfl, hxl, hb, hk, by omega, ?_⟩
  rw [List.take_of_length_le (by rw [List.length_drop]; omega)]
  exact hx
/-- A world whose blocks are all read only. -/
def Gh.all (w : World) : Gh := { ρ := fun _ => none, m := fun _ => 0, R := fun x => x < w.heap.size, n := 0 }
theorem Gh.all_sat (w : World) : Sat (Gh.all w) w [] := by
  refine ⟨rfl, fun id b hb => ?_, fun id id' b b' x h1 h2 h3 h4 => ?_, fun x hx => ⟨hx, fun ⟨id, b, h1, h2⟩ => ?_⟩⟩
  · simp [Heap.at] at hb
  · simp [Heap.at] at h1
  · simp [Heap.at] at h1
/-- What a contract says of a run from the outside. -/
theorem Gives.outside {P : Program} {f : FuncId} {args : List AV} {V : Value} {w : World} {us : Array Value} (h : Gives P f args (.lit V)) (hl : args.length = us.size)
    (hr : ∀ (i : Nat) (c : AV) (v : Value), args[i]? = some c → us[i]? = some v → Rel (Gh.all w) w c v) :
    Calls P f us w fun e w' => e = .returned V ∧ w'.os = w.os ∧ w'.tape = w.tape ∧ w'.output = w.output ∧ w.heap.size ≤ w'.heap.size ∧ ∀ k, k < w.heap.size → w'.heap[k]? = w.heap[k]? := by
  refine (h (Gh.all w) w us (Gh.all_sat w) hl hr).mono ?_
  rintro e w' ⟨u, γ', v, H', rfl, ⟨rfl, rfl⟩, hp, ev, hs, hv⟩
  have hu := hv.lit_inv
  subst hu
  refine ⟨rfl, ev.os, ev.tape, ev.output, ev.size, fun k hk => ev.keep k hk fun ⟨id, b, h1, h2⟩ => ?_⟩
  simp [Heap.at] at h1
end Go.Ae
end
section
/-! Regions whose order is drawn, with a place where two operations are ready. -/
namespace Go.Ae
set_option linter.unusedVariables false
/-- What orderE asks, of operations of kinds 0 and 1 ahead of a tail. -/
def orderP (free : List Nat) (tail : List ERow) : List Nat → List ERow → Bool
  | _, [] => true
  | done, r :: rest => !done.contains r.i && r.row.deps.all (fun d => done.contains d) && Nat.blt r.kind 2 &&
    (rest ++ tail).all (fun s => s.row.deps.contains r.i || (qapart r.row s.row && (Nat.beq r.kind 0 || !free.contains s.i))) && (tail.all (fun s => !(Nat.beq s.i r.i)) && orderP free tail (r.i :: done) rest)
/-- Operations of kinds 0 and 1 up to a place from where it is known how to go on. -/
theorem drawE_pre {P : Program} {ops : Array Oper} {Ball free : List Nat} {K KB : Slots → Heap → Prop} (tail : List (Nat × Nat)) (m : Nat) (htl : ∀ q ∈ tail, q.1 < ops.size)
    (base : ∀ (done : List Nat) (listed : Array Bool) (s : Slots) (H : Heap), (∀ j, listed[j]? = if j < ops.size then some (done.contains j) else none) → (∀ j, done.contains j = true → j < ops.size) →
      (∀ j, j < ops.size → done.contains j = true ∨ j ∈ tail.map (·.1)) → (∀ j, j ∈ tail.map (·.1) → done.contains j = false) → KB s H → anyE P .any ops (fun i => if free.contains i then [] else Ball) K m listed s H) : ∀ (l : List (Nat × Nat)) (done : List Nat) (listed : Array Bool) (s : Slots) (H : Heap),
    (∀ j, listed[j]? = if j < ops.size then some (done.contains j) else none) → (∀ j, done.contains j = true → j < ops.size) → (∀ j, j < ops.size → done.contains j = true ∨ j ∈ l.map (·.1) ∨ j ∈ tail.map (·.1)) → (∀ q ∈ l, q.1 < ops.size) →
    (∀ j, j ∈ tail.map (·.1) → done.contains j = false) → orderP free (tail.map (erow ops)) done (l.map (erow ops)) = true → (∀ q ∈ l, ∀ o, ops[q.1]? = some o → kindE o.op q.2 = true) → drawEK P ops.toList Ball free l s H KB →
    anyE P .any ops (fun i => if free.contains i then [] else Ball) K (l.length + m) listed s H
  | [], done, listed, s, H, hli, hd, hc, hlt, hdis, ho, hk, h => by
    rw [List.length_nil, Nat.zero_add]
    exact base done listed s H hli hd (fun j hj => by
      rcases hc j hj with h1 | h1 | h1
      · exact .inl h1
      · cases h1
      · exact .inr h1) hdis h
  | (i, k) :: rest, done, listed, s, H, hli, hd, hc, hlt, hdis, ho, hk, h => by
    have hil : i < ops.size := hlt (i, k) (by simp)
    obtain ⟨o, hoi⟩ : ∃ o, ops[i]? = some o := ⟨_, Array.getElem?_eq_getElem hil⟩
    have hkind := hk (i, k) (by simp) o hoi
    have erow_i : erow ops (i, k) = ⟨i, k, qrow ops o⟩ := by simp [erow, hoi]
    simp only [List.map_cons, orderP, erow_i, Bool.and_eq_true, Bool.not_eq_true'] at ho
    obtain ⟨⟨⟨⟨ho1, ho2⟩, hk2⟩, ho3⟩, ho5, ho4⟩ := ho
    have get : ∀ j, j < ops.size → ∀ d, listed.getD j d = done.contains j := fun j hj d => by
      rw [Array.getD_eq_getD_getElem?, hli j, if_pos hj]; rfl
    have hready : i ∈ Region.ready .any ops listed := mem_ready.2 ⟨by rw [get i hil]; exact ho1, o, hoi, fun x hx hb => by
      have : x.on ∈ (qrow ops o).deps := List.mem_map.2 ⟨x, List.mem_filter.2 ⟨by simpa using hx, hb⟩, rfl⟩
      have h4 := List.all_eq_true.1 ho2 _ this
      rw [get _ (hd _ h4)]
      exact h4⟩
    have hsz : ops.size = listed.size := by
      rcases Nat.lt_trichotomy ops.size listed.size with hh | hh | hh
      · have := hli ops.size
        rw [if_neg (Nat.lt_irrefl _), Array.getElem?_eq_none_iff] at this
        omega
      · exact hh
      · have := hli listed.size
        rw [if_pos hh, Array.getElem?_eq_none (Nat.le_refl _)] at this
        cases this
    have hli' : ∀ j, (listed.setIfInBounds i true)[j]? = if j < ops.size then some ((i :: done).contains j) else none := fun j => by
      rw [Array.getElem?_setIfInBounds]
      by_cases hij : i = j
      · subst hij
        rw [if_pos rfl, if_pos (by omega), if_pos hil]
        simp
      · rw [if_neg hij, hli j]
        by_cases hj : j < ops.size
        · rw [if_pos hj, if_pos hj]
          congr 1
          have : ¬ j = i := fun e => hij e.symm
          simp [this]
        · rw [if_neg hj, if_neg hj]
    have hd' : ∀ j, (i :: done).contains j = true → j < ops.size := fun j hj => by
      simp only [List.contains_cons, Bool.or_eq_true, beq_iff_eq] at hj
      rcases hj with rfl | hj
      · exact hil
      · exact hd j hj
    have hc' : ∀ j, j < ops.size → (i :: done).contains j = true ∨ j ∈ rest.map (·.1) ∨ j ∈ tail.map (·.1) := fun j hj => by
      rcases hc j hj with h1 | h1 | h1
      · exact .inl (by simp only [List.contains_cons, h1, Bool.or_true])
      · rcases List.mem_cons.1 h1 with h2 | h2
        · exact .inl (by simp only [List.contains_cons, h2]; simp)
        · exact .inr (.inl h2)
      · exact .inr (.inr h1)
    have hdis' : ∀ j, j ∈ tail.map (·.1) → (i :: done).contains j = false := fun j hj => by
      have h1 := hdis j hj
      have h2 : j ≠ i := fun e => by
        subst e
        have h3 : (tail.map (erow ops)).all (fun r => !(Nat.beq r.i j)) = true := ho5
        obtain ⟨q, hq, hqe⟩ := List.mem_map.1 hj
        have h4 := List.all_eq_true.1 h3 (erow ops q) (List.mem_map.2 ⟨q, hq, rfl⟩)
        simp only [erow, Bool.not_eq_true'] at h4
        rw [hqe] at h4
        simp at h4
      simp only [List.contains_cons, h1, Bool.or_false, beq_eq_false_iff_ne, ne_eq]
      exact h2
    have next : ∀ s' H', drawEK P ops.toList Ball free rest s' H' KB → anyE P .any ops (fun i => if free.contains i then [] else Ball) K (rest.length + m) (listed.setIfInBounds i true) s' H' :=
      fun s' H' h' => drawE_pre tail m htl base rest (i :: done) _ s' H' hli' hd' hc' (fun q hq => hlt q (List.mem_cons_of_mem _ hq)) hdis' ho4 (fun q hq => hk q (List.mem_cons_of_mem _ hq)) h'
    -- what is open beside it
    have open_ : ∀ j oj, ops[j]? = some oj → j ≠ i → listed.getD j true = false → ∃ r ∈ (rest ++ tail).map (erow ops), r.i = j ∧ r.row = qrow ops oj := fun j oj hoj hji hun => by
      have hjl : j < ops.size := (Array.getElem?_eq_some_iff.1 hoj).1
      rw [get j hjl] at hun
      have h9 : j ∈ (rest ++ tail).map (·.1) := by
        rw [List.map_append, List.mem_append]
        rcases hc j hjl with h1 | h1 | h1
        · rw [hun] at h1; cases h1
        · rcases List.mem_cons.1 h1 with h2 | h2
          · exact absurd h2 hji
          · exact .inl h2
        · exact .inr h1
      obtain ⟨q, hq, rfl⟩ := List.mem_map.1 h9
      exact ⟨erow ops q, List.mem_map.2 ⟨q, hq, rfl⟩, rfl, by simp [erow, hoj]⟩
    have one : ∀ s1 : Slots, s1 = s → wantA ops.toList o s = some true → oneE P Ball free i k o.op s1 H (fun v H' => drawEK P ops.toList Ball free rest (putS s1 o.dst v) H' KB) →
        anyE P .any ops (fun i => if free.contains i then [] else Ball) K (rest.length + m + 1) listed s H := by
      rintro s1 rfl hw h1
      have go : ∀ (D : List Nat) (v : AV), (Nat.blt k 2 = true) → (k = 0 → D = []) → (∀ id ∈ D, id ∈ Ball) → (∀ H', Keeps D H H' → stepK P o.op s1 H' fun v' H'' => v' = v ∧ H'' = H') →
          drawEK P ops.toList Ball free rest (putS s1 o.dst v) H KB → anyE P .any ops (fun i => if free.contains i then [] else Ball) K (rest.length + m + 1) listed s1 H := by
        intro D v hk2 hk0 hD hst hr
        refine anyE_first (D := D) hoi (rest.length + m) listed s1 H (fun j oj hoj hji hun hno => ?_) hready (.inl ⟨hw, fun H' hH' => ⟨_, hst H' hH', fun _ _ h => h⟩⟩) (next _ _ hr)
        obtain ⟨r, hr1, hr2, hr3⟩ := open_ j oj hoj hji hun
        rw [List.map_append] at hr1
        have h5 := List.all_eq_true.1 ho3 r hr1
        simp only [Bool.or_eq_true, Bool.and_eq_true] at h5
        rcases h5 with h5 | h5
        · exfalso
          have h6 : i ∈ r.row.deps := by simpa using h5
          rw [hr3] at h6
          obtain ⟨x, hx, he⟩ := List.mem_map.1 h6
          obtain ⟨hx1, hx2⟩ := List.mem_filter.1 hx
          exact hno x (by simpa using hx1) hx2 he
        · obtain ⟨h6, h7⟩ := h5
          rw [hr3, qapart_eq] at h6
          refine ⟨h6, fun id hid => ?_⟩
          rcases h7 with h7 | h7
          · have : k = 0 := by simpa using h7
            rw [hk0 this] at hid
            cases hid
          · rw [hr2] at h7
            simp only [Bool.not_eq_true'] at h7
            show id ∈ (if free.contains j = true then [] else Ball)
            rw [h7]
            simpa using hD id hid
      match k, hkind, h1, ho3, go, hk2 with
      | 0, hkind, h1, ho3, go, hk2 =>
        have hl : lightOp o.op = true := by simpa [kindE] using hkind
        have h1' : lightK P o.op s1 H (fun v H' => drawEK P ops.toList Ball free rest (putS s1 o.dst v) H' KB) := h1
        obtain ⟨v, h2, h3⟩ := lightK_sound hl h1'
        exact go [] v rfl (fun _ => rfl) (fun _ h => by cases h) (fun H' _ => h2 H') h3
      | 1, hkind, h1, ho3, go, hk2 =>
        obtain ⟨v, D, h2, h3, h4⟩ := loadE_sound h1.1 h1.2
        exact go D v rfl (fun h => by cases h) h2 h3 h4
      | k + 2, hkind, h1, ho3, go, hk2 => exact absurd hk2 (by simp)
    have pass : wantA ops.toList o s = some false → drawEK P ops.toList Ball free rest (putS s o.dst (.lit undef)) H KB → anyE P .any ops (fun i => if free.contains i then [] else Ball) K (rest.length + m + 1) listed s H := by
      intro hw h1
      refine anyE_first (D := []) (v := .lit undef) hoi (rest.length + m) listed s H (fun j oj hoj hji hun hno => ?_) hready (.inr ⟨hw, rfl⟩) (next _ _ h1)
      obtain ⟨r, hr1, hr2, hr3⟩ := open_ j oj hoj hji hun
      rw [List.map_append] at hr1
      have h5 := List.all_eq_true.1 ho3 r hr1
      simp only [Bool.or_eq_true, Bool.and_eq_true] at h5
      rcases h5 with h5 | h5
      · exfalso
        have h6 : i ∈ r.row.deps := by simpa using h5
        rw [hr3] at h6
        obtain ⟨x, hx, he⟩ := List.mem_map.1 h6
        obtain ⟨hx1, hx2⟩ := List.mem_filter.1 hx
        exact hno x (by simpa using hx1) hx2 he
      · have h6 := h5.1
        rw [hr3, qapart_eq] at h6
        exact ⟨h6, fun id hid => by cases hid⟩
    unfold drawEK at h
    rw [Array.getElem?_toList, hoi] at h
    simp only at h
    rw [List.length_cons, Nat.add_right_comm]
    split at h
    · rename_i hg
      exact one s rfl (by simp [wantA, hg]) h
    · rename_i j want hg
      split at h
      · rename_i d hd
        split at h
        · rename_i b hb
          by_cases hbw : b = want
          · have h1 := h.1 hbw
            subst hbw
            rw [set_getD hb (by simp)] at h1
            exact one s rfl (by unfold wantA; rw [hg]; simp only; rw [hd]; simp only; rw [hb]; simp) h1
          · have hbw' : b = !want := by clear h hb; revert hbw; cases b <;> cases want <;> decide
            have h1 := h.2 hbw'
            rw [← hbw', set_getD hb (by simp)] at h1
            exact pass (by unfold wantA; rw [hg]; simp only; rw [hd]; simp only; rw [hb]; simp [hbw]) h1
        · rename_i vs hb
          exact pass (by unfold wantA; rw [hg]; simp only; rw [hd]; simp only; rw [hb]) h
        · exact h.elim
      · exact h.elim


theorem orderE_congr {free : List Nat} : ∀ {l : List ERow} {d d' : List Nat}, (∀ j, d.contains j = d'.contains j) → orderE free d l = orderE free d' l
  | [], _, _, _ => rfl
  | r :: rest, d, d', h => by
    have e : (fun x => d.contains x) = (fun x => d'.contains x) := funext h
    have e2 : (fun x => !d.contains x) = (fun x => !d'.contains x) := funext fun x => by rw [h]
    have hr : orderE free (r.i :: d) rest = orderE free (r.i :: d') rest := orderE_congr fun j => by simp only [List.contains_cons, h]
    simp only [orderE, h, e, e2, hr]
/-- One heavy operation, then a list. -/
theorem forkOne {P : Program} {ops : Array Oper} {Ball free : List Nat} {K : Slots → Heap → Prop} {i : Nat} {o : Oper} {rest : List (Nat × Nat)} {done : List Nat} {listed : Array Bool} {s : Slots} {H : Heap} (hoi : ops[i]? = some o) (hg : o.guard = none)
    (hli : ∀ j, listed[j]? = if j < ops.size then some (done.contains j) else none) (hd : ∀ j, done.contains j = true → j < ops.size) (hc : ∀ j, j < ops.size → done.contains j = true ∨ j = i ∨ j ∈ rest.map (·.1)) (hlt : ∀ q ∈ rest, q.1 < ops.size)
    (ho : orderE free (i :: done) (rest.map (erow ops)) = true) (hk : ∀ q ∈ rest, ∀ o, ops[q.1]? = some o → kindE o.op q.2 = true) (h : drawEK P ops.toList Ball free ((i, 2) :: rest) s H K) :
    opE P ops (fun i => if free.contains i then [] else Ball) i (anyE P .any ops (fun i => if free.contains i then [] else Ball) K rest.length (listed.setIfInBounds i true)) s H := by
  have hil : i < ops.size := (Array.getElem?_eq_some_iff.1 hoi).1
  have hsz : ops.size = listed.size := by
    rcases Nat.lt_trichotomy ops.size listed.size with hh | hh | hh
    · have := hli ops.size
      rw [if_neg (Nat.lt_irrefl _), Array.getElem?_eq_none_iff] at this
      omega
    · exact hh
    · have := hli listed.size
      rw [if_pos hh, Array.getElem?_eq_none (Nat.le_refl _)] at this
      cases this
  have hli' : ∀ j, (listed.setIfInBounds i true)[j]? = if j < ops.size then some ((i :: done).contains j) else none := fun j => by
    rw [Array.getElem?_setIfInBounds]
    by_cases hij : i = j
    · subst hij
      rw [if_pos rfl, if_pos (by omega), if_pos hil]
      simp
    · rw [if_neg hij, hli j]
      by_cases hj : j < ops.size
      · rw [if_pos hj, if_pos hj]
        congr 1
        have : ¬ j = i := fun e => hij e.symm
        simp [this]
      · rw [if_neg hj, if_neg hj]
  have hd' : ∀ j, (i :: done).contains j = true → j < ops.size := fun j hj => by
    simp only [List.contains_cons, Bool.or_eq_true, beq_iff_eq] at hj
    rcases hj with rfl | hj
    · exact hil
    · exact hd j hj
  have hc' : ∀ j, j < ops.size → (i :: done).contains j = true ∨ j ∈ rest.map (·.1) := fun j hj => by
    rcases hc j hj with h1 | h1 | h1
    · exact .inl (by simp only [List.contains_cons, h1, Bool.or_true])
    · exact .inl (by simp only [List.contains_cons, h1]; simp)
    · exact .inr h1
  unfold drawEK at h
  rw [Array.getElem?_toList, hoi] at h
  simp only [hg] at h
  have hw : wantA ops.toList o s = some true := by simp [wantA, hg]
  unfold opE
  simp only [hoi, hw]
  have h1' : stepK P o.op s H (fun v H' => keepsK Ball (free.contains i) H H' ∧ drawEK P ops.toList Ball free rest (putS s o.dst v) H' K) := h
  refine ⟨_, h1', fun v H' h2 => ⟨?_, drawE_any rest (i :: done) _ _ H' hli' hd' hc' hlt ho hk h2.2⟩⟩
  show Keeps (if free.contains i = true then [] else Ball) H H'
  have h3 := h2.1
  cases hf : free.contains i with
  | true => rw [if_pos rfl]; exact fun _ h => by cases h
  | false =>
    rw [hf] at h3
    rw [if_neg (by simp)]
    exact KeepL.keeps h3
def forkHalf (ops : Array Oper) (free tl : List Nat) (i : Nat) (l : List (Nat × Nat)) : Bool :=
  Nat.blt i ops.size && (erow ops (i, 2)).row.deps.all (fun d => Nat.blt d ops.size && !tl.contains d) && tl.contains i && tl.all (fun j => Nat.beq j i || (l.map (·.1)).contains j) && l.all (fun q => Nat.blt q.1 ops.size) &&
  orderE free (i :: (List.range ops.size).filter fun j => !tl.contains j) (l.map (erow ops)) && (match ops[i]? with | some o => o.guard.isNone | none => false) && l.all fun q => match ops[q.1]? with
    | some o => kindE o.op q.2
    | none => false
def drawFB (ops : Array Oper) (free : List Nat) (pre : List (Nat × Nat)) (i1 : Nat) (l1 : List (Nat × Nat)) (i2 : Nat) (l2 : List (Nat × Nat)) : Bool :=
  let tl := i1 :: l1.map (·.1)
  forkHalf ops free tl i1 l1 && forkHalf ops free tl i2 l2 && Nat.beq l1.length l2.length && tl.all (fun j => Nat.beq j i1 || Nat.beq j i2 || (erow ops (j, 2)).row.deps.any fun d => tl.contains d) &&
  (List.range ops.size).all (fun j => (pre.map (·.1)).contains j || tl.contains j) && Nat.beq (pre.length + (l1.length + 1)) ops.size && pre.all (fun q => Nat.blt q.1 ops.size) && orderP free (((i1, 2) :: l1).map (erow ops)) [] (pre.map (erow ops)) && pre.all fun q => match ops[q.1]? with
    | some o => kindE o.op q.2
    | none => false
theorem forkHalf_opE {P : Program} {ops : Array Oper} {Ball free : List Nat} {K : Slots → Heap → Prop} {tl : List Nat} {i : Nat} {l : List (Nat × Nat)} (hf : forkHalf ops free tl i l = true) {done : List Nat} {listed : Array Bool} {s : Slots} {H : Heap}
    (hli : ∀ j, listed[j]? = if j < ops.size then some (done.contains j) else none) (hd : ∀ j, done.contains j = true → j < ops.size) (hc : ∀ j, j < ops.size → done.contains j = true ∨ j ∈ tl) (hdis : ∀ j, j ∈ tl → done.contains j = false) (h : drawEK P ops.toList Ball free ((i, 2) :: l) s H K) :
    i ∈ Region.ready .any ops listed ∧ opE P ops (fun i => if free.contains i then [] else Ball) i (anyE P .any ops (fun i => if free.contains i then [] else Ball) K l.length (listed.setIfInBounds i true)) s H := by
  simp only [forkHalf, Bool.and_eq_true] at hf
  obtain ⟨⟨⟨⟨⟨⟨⟨f1, f2⟩, f3⟩, f4⟩, f5⟩, f6⟩, f7⟩, f8⟩ := hf
  have hil : i < ops.size := by simpa using f1
  obtain ⟨o, hoi⟩ : ∃ o, ops[i]? = some o := ⟨_, Array.getElem?_eq_getElem hil⟩
  have get : ∀ j, j < ops.size → ∀ d, listed.getD j d = done.contains j := fun j hj d => by
    rw [Array.getD_eq_getD_getElem?, hli j, if_pos hj]; rfl
  have hit : i ∈ tl := by simpa using f3
  have herow : (erow ops (i, 2)).row = qrow ops o := by simp [erow, hoi]
  refine ⟨mem_ready.2 ⟨by rw [get i hil]; exact hdis i hit, o, hoi, fun x hx hb => ?_⟩, ?_⟩
  · have h4 : x.on ∈ (erow ops (i, 2)).row.deps := by
      rw [herow]
      exact List.mem_map.2 ⟨x, List.mem_filter.2 ⟨by simpa using hx, hb⟩, rfl⟩
    have h5 := List.all_eq_true.1 f2 _ h4
    simp only [Bool.and_eq_true, Bool.not_eq_true'] at h5
    have h6 : x.on < ops.size := by simpa using h5.1
    rw [get _ h6]
    rcases hc _ h6 with h7 | h7
    · exact h7
    · have h8 : x.on ∉ tl := by simpa using h5.2
      exact absurd h7 h8
  · rw [hoi] at f7
    refine forkOne hoi (by simpa using f7) hli hd (fun j hj => ?_) (fun q hq => by simpa using List.all_eq_true.1 f5 q hq) ?_ (fun q hq o ho => ?_) h
    · rcases hc j hj with h1 | h1
      · exact .inl h1
      · have h2 := List.all_eq_true.1 f4 j h1
        simp only [Bool.or_eq_true] at h2
        rcases h2 with h2 | h2
        · exact .inr (.inl (by simpa using h2))
        · exact .inr (.inr (by simpa using h2))
    · refine (orderE_congr fun j => ?_).trans f6
      simp only [List.contains_cons]
      congr 1
      rw [Bool.eq_iff_iff]
      constructor
      · intro h1
        have h2 := hd j h1
        have h3 : j ∉ tl := fun hh => by rw [hdis j hh] at h1; cases h1
        simp [h2, h3]
      · intro h1
        have h2 : j < ops.size ∧ j ∉ tl := by simpa using h1
        rcases hc j h2.1 with h3 | h3
        · exact h3
        · exact absurd h3 h2.2
    · have := List.all_eq_true.1 f8 q hq
      rw [ho] at this
      exact this
theorem drawF_any {P : Program} {ops : Array Oper} {Ball free : List Nat} {K : Slots → Heap → Prop} {pre : List (Nat × Nat)} {i1 : Nat} {l1 : List (Nat × Nat)} {i2 : Nat} {l2 : List (Nat × Nat)} (hB : drawFB ops free pre i1 l1 i2 l2 = true) {s : Slots} {H : Heap}
    (h : drawEK P ops.toList Ball free pre s H fun s' H' => drawEK P ops.toList Ball free ((i1, 2) :: l1) s' H' K ∧ drawEK P ops.toList Ball free ((i2, 2) :: l2) s' H' K) :
    anyE P .any ops (fun i => if free.contains i then [] else Ball) K ops.size (Array.replicate ops.size false) s H := by
  simp only [drawFB, Bool.and_eq_true] at hB
  obtain ⟨⟨⟨⟨⟨⟨⟨⟨b1, b2⟩, b3⟩, b4⟩, b5⟩, b6⟩, b7⟩, b8⟩, b9⟩ := hB
  have hsize : pre.length + (l1.length + 1) = ops.size := by simpa using b6
  have hll : l1.length = l2.length := by simpa using b3
  have htlm : ((i1, 2) :: l1).map (·.1) = i1 :: l1.map (·.1) := rfl
  rw [← hsize]
  refine drawE_pre ((i1, 2) :: l1) (l1.length + 1) (fun q hq => ?_) (fun done listed s H hli hd hc hdis hKB => ?_) pre [] _ s H (fun j => by rw [Array.getElem?_replicate, hsize]; simp) (fun j hj => by simp at hj) (fun j hj => ?_) (fun q hq => by simpa using List.all_eq_true.1 b7 q hq)
    (fun j hj => by simp) b8 (fun q hq o ho => ?_) h
  · have f1 := b1
    simp only [forkHalf, Bool.and_eq_true] at f1
    obtain ⟨⟨⟨⟨⟨⟨⟨f1, _⟩, _⟩, _⟩, f5⟩, _⟩, _⟩, _⟩ := f1
    rcases List.mem_cons.1 hq with rfl | hq
    · simpa using f1
    · simpa using List.all_eq_true.1 f5 q hq
  · rw [htlm] at hc hdis
    obtain ⟨r1, o1⟩ := forkHalf_opE b1 hli hd hc hdis hKB.1
    obtain ⟨r2, o2⟩ := forkHalf_opE b2 hli hd hc hdis hKB.2
    refine ⟨fun h0 => (by rw [h0] at r1; cases r1), fun j hj => ?_⟩
    by_cases e1 : j = i1
    · subst e1; exact o1
    by_cases e2 : j = i2
    · subst e2; rw [hll]; exact o2
    exfalso
    obtain ⟨hun, oj, hoj, hall⟩ := mem_ready.1 hj
    have hjl : j < ops.size := (Array.getElem?_eq_some_iff.1 hoj).1
    have get : ∀ j, j < ops.size → ∀ d, listed.getD j d = done.contains j := fun j hj d => by
      rw [Array.getD_eq_getD_getElem?, hli j, if_pos hj]; rfl
    rw [get j hjl] at hun
    have hjt : j ∈ i1 :: l1.map (·.1) := by
      rcases hc j hjl with h1 | h1
      · rw [hun] at h1; cases h1
      · exact h1
    have h4 := List.all_eq_true.1 b4 j hjt
    simp only [Bool.or_eq_true] at h4
    rcases h4 with (h4 | h4) | h4
    · exact e1 (by simpa using h4)
    · exact e2 (by simpa using h4)
    · obtain ⟨d, hd1, hd2⟩ := List.any_eq_true.1 h4
      have hrow : (erow ops (j, 2)).row = qrow ops oj := by simp [erow, hoj]
      rw [hrow] at hd1
      obtain ⟨x, hx, he⟩ := List.mem_map.1 hd1
      obtain ⟨hx1, hx2⟩ := List.mem_filter.1 hx
      have h7 := hall x (by simpa using hx1) hx2
      have h8 : d ∈ i1 :: l1.map (·.1) := by simpa using hd2
      have h9 := hdis d h8
      rcases Nat.lt_or_ge x.on ops.size with h10 | h10
      · rw [get _ h10, he, h9] at h7; cases h7
      · rw [Array.getD_eq_getD_getElem?, hli x.on, if_neg (by omega)] at h7
        cases h7
  · have := List.all_eq_true.1 b5 j (List.mem_range.2 hj)
    simp only [Bool.or_eq_true] at this
    rcases this with h1 | h1
    · exact .inr (.inl (by simpa using h1))
    · exact .inr (.inr (by rw [htlm]; simpa using h1))
  · have := List.all_eq_true.1 b9 q hq
    rw [ho] at this
    exact this
theorem Tri0.drawF {P : Program} {p : Nat} {id : Nat} {ops : Array Oper} {s : Slots} {H : Heap} {Q : Exit → Slots → Heap → Prop} (hm : P.follows .mixedOrders = true) (Ball free : List Nat) (pre : List (Nat × Nat)) (i1 : Nat) (l1 : List (Nat × Nat)) (i2 : Nat) (l2 : List (Nat × Nat)) (hB : drawFB ops free pre i1 l1 i2 l2 = true)
    (h : drawEK P ops.toList Ball free pre s H (fun s' H' => drawEK P ops.toList Ball free ((i1, 2) :: l1) s' H' (fun s' H' => Q .normal s' H') ∧ drawEK P ops.toList Ball free ((i2, 2) :: l2) s' H' (fun s' H' => Q .normal s' H'))) : Tri0 P p (.region id ops true) s H Q := by
  intro γ a w hp hs hr
  refine wp_region_any hm ?_
  have h1 := drawF_any (P := P) (K := fun s' H' => Q .normal s' H') hB h
  have hs' : Sat γ { w with drawn := w.drawn + 1 } H := ⟨hs.n, fun id b hb => by
    have := hs.blk id b hb
    cases hid : γ.ρ id with
    | none => rw [hid] at this; exact this
    | some x =>
      rw [hid] at this
      obtain ⟨vs, t, g1, g2, g3⟩ := this
      exact ⟨vs, t, g1, g2, BRel.mono (γ := γ) (γ' := γ) (w := w) (w' := { w with drawn := w.drawn + 1 }) (Nat.le_refl _) (fun _ _ => ⟨rfl, rfl⟩) (fun _ h => h) (fun _ _ => rfl) g3⟩, hs.inj, fun x hx => hs.rd x hx⟩
  have hr' : SRel γ { w with drawn := w.drawn + 1 } s a := hr.mono (γ := γ) (γ' := γ) (Nat.le_refl _) (fun _ _ => ⟨rfl, rfl⟩) (fun _ h => h) (fun _ _ => rfl)
  refine anyE_sound (p := p) ops.size _ s H h1 γ a _ hs' hr' hp fun γ' a' w' s' H' q hl ev hs'' hr'' => ?_
  exact ⟨γ', s', H', q, Nat.le_trans hp hl, ⟨fun id hid => ev.ρ id (Nat.lt_of_lt_of_le hid hp), ev.R, ev.R', ev.L, ev.os, ev.tape, ev.output, ev.size, ev.keep⟩, hs'', hr''⟩

theorem Tri.heavySeqF {P : Program} {p : Nat} {s : Slots} {H : Heap} {Q : Exit → Slots → Heap → Prop} {id : Nat} {ops : Array Oper} {y : Code} (rid : Nat) (hrid : id = rid) (hm : P.follows .mixedOrders = true) (roots free : List Nat) (pre : List (Nat × Nat)) (i1 : Nat) (l1 : List (Nat × Nat)) (i2 : Nat) (l2 : List (Nat × Nat)) (hB : drawFB ops free pre i1 l1 i2 l2 = true)
    (h : ∀ K : Slots → Heap → Prop, (∀ s' H', Tri P p y s' H' Q → K s' H') → DrawS P ops.toList (ballX s H roots) free pre s H fun s' H' => drawEK P ops.toList (ballX s H roots) free ((i1, 2) :: l1) s' H' K ∧ drawEK P ops.toList (ballX s H roots) free ((i2, 2) :: l2) s' H' K) : Tri P p (.seq (.region id ops true) y) s H Q :=
  Tri.seq ⟨Tri0.drawF hm (ballX s H roots) free pre i1 l1 i2 l2 hB (h (fun s' H' => Tri P p y s' H' Q) fun _ _ h => h).run⟩
theorem Tri.heavyF {P : Program} {p : Nat} {s : Slots} {H : Heap} {Q : Exit → Slots → Heap → Prop} {id : Nat} {ops : Array Oper} (rid : Nat) (hrid : id = rid) (hm : P.follows .mixedOrders = true) (roots free : List Nat) (pre : List (Nat × Nat)) (i1 : Nat) (l1 : List (Nat × Nat)) (i2 : Nat) (l2 : List (Nat × Nat)) (hB : drawFB ops free pre i1 l1 i2 l2 = true)
    (h : ∀ K : Slots → Heap → Prop, (∀ s' H', Q .normal s' H' → K s' H') → DrawS P ops.toList (ballX s H roots) free pre s H fun s' H' => drawEK P ops.toList (ballX s H roots) free ((i1, 2) :: l1) s' H' K ∧ drawEK P ops.toList (ballX s H roots) free ((i2, 2) :: l2) s' H' K) : Tri P p (.region id ops true) s H Q :=
  ⟨Tri0.drawF hm (ballX s H roots) free pre i1 l1 i2 l2 hB (h (fun s' H' => Q .normal s' H') fun _ _ h => h).run⟩
theorem raw2 {a b : Int} {i : Nat} (h : i < 2) : ([[AV.r (.lit (.int .i64 a))], [AV.r (.lit (.int .i64 b))]].getD i []).getD 0 AV.any = AV.r (.lit (.int .i64 ([a, b].getD i default))) := by
  match i, h with
  | 0, _ => rfl
  | 1, _ => rfl
theorem raw3 {a b c : Int} {i : Nat} (h : i < 3) : ([[AV.r (.lit (.int .i64 a))], [AV.r (.lit (.int .i64 b))], [AV.r (.lit (.int .i64 c))]].getD i []).getD 0 AV.any = AV.r (.lit (.int .i64 ([a, b, c].getD i default))) := by
  match i, h with
  | 0, _ => rfl
  | 1, _ => rfl
  | 2, _ => rfl
end Go.Ae
end
section
/-! A place where ways meet: the state told anew behind a block. -/
namespace Go.Ae
def blkId : Code → Option Nat
  | .block id _ => some id
  | _ => none
theorem Tri.cutN {P : Program} {p : Nat} {s : Slots} {H : Heap} {Q : Exit → Slots → Heap → Prop} {x y : Code} {ι : Type} (bid : Nat) (_hb : blkId x = some bid) (I : ι → Slots) (J : ι → Heap) (M : ι → Prop)
    (h1 : Tri P p x s H (thenQ (fun s' H' => ∃ j, M j ∧ Ent p s' H' (I j) (J j)) Q)) (h2 : ∀ j, M j → Tri P p y (I j) (J j) Q) : Tri P p (.seq x y) s H Q :=
  Tri.seq (Tri.mono h1 fun e s' H' h => by
    cases e with
    | normal =>
      obtain ⟨j, hM, hE⟩ := h
      exact Tri.ent hE (h2 j hM)
    | _ => exact h)
theorem cutK {ι : Type} {I : ι → Slots} {J : ι → Heap} {M : ι → Prop} {p : Nat} {s : Slots} {H : Heap} (j' : ι) (hE : Ent p s H (I j') (J j')) (hM : M j') : ∃ j', M j' ∧ Ent p s H (I j') (J j') := ⟨j', hM, hE⟩
theorem Tri.cutB {P : Program} {p : Nat} {s : Slots} {H : Heap} {Q : Exit → Slots → Heap → Prop} {x y : Code} {ι : Type} (bid : Nat) (_hb : blkId x = some bid) (I : ι → Slots) (J : ι → Heap) (M : ι → Prop)
    (h1 : Tri P p x s H (thenQ (fun s' H' => ∃ j, M j ∧ Ent p s' H' (I j) (J j)) (thenT P p y Q))) (h2 : ∀ j, M j → Tri P p y (I j) (J j) Q) : Tri P p x s H (thenT P p y Q) :=
  Tri.mono h1 fun e s' H' h => by
    cases e with
    | normal =>
      obtain ⟨j, hM, hE⟩ := h
      exact Tri.ent hE (h2 j hM)
    | _ => exact h
theorem RowsAre.rep {α : Type} {enc : α → List RV} {x : α} {n : Nat} {row : List AV} (h : RowIs enc x row) : RowsAre enc (List.replicate n x) (List.replicate n row) := by
  unfold RowsAre RowIs at *; subst h; rw [List.map_replicate]
/-- Which function a goal belongs to, where many are walked by one text. -/
def Tag (_n : Nat) : Prop := True
theorem tg (n : Nat) : Tag n := True.intro
end Go.Ae
end
section
/-! Results of our own that are only read from now on. -/
namespace Go.Ae
theorem Does.retell {P : Program} {f : FuncId} {p : Nat} {args : List AV} {H H' H2 : Heap} {v v2 : AV} (h : Does P f p args H fun v0 H0 => v0 = v ∧ H0 = H') (hE : Ent p [v] H' [v2] H2) : Does P f p args H fun v0 H0 => v0 = v2 ∧ H0 = H2 :=
  fun γ w us hs hl hr => (h γ w us hs hl hr).mono fun e w' ⟨u, γ', v0, H0, a1, a2, a3, a4, a5, a6⟩ => by
    obtain ⟨rfl, rfl⟩ := a2
    obtain ⟨γ2, g1, g2, g3, g4, g5⟩ := hE.sound a5
    exact ⟨u, γ2, v2, H2, a1, ⟨rfl, rfl⟩, g3, a4.trans g2, g1, g5 0 v0 v2 u rfl rfl a6⟩
/-- Results of our own, read only from now on. -/
theorem Does.freeze {P : Program} {f : FuncId} {args : List AV} {H' : Heap} {v v2 : AV} (h : Does P f 0 args [] fun v0 H0 => v0 = v ∧ H0 = H') (hv : VSub H' (fun _ => True) (fun _ => none) 0 v2 v) : Gives P f args v2 :=
  Does.retell h ⟨fun _ => True, fun _ => none, ⟨Nat.le_refl _, fun j hj => absurd hj (Nat.not_lt_zero _), fun _ _ _ h => (nomatch h), fun _ _ _ h _ => (nomatch h), fun j b h => by simp [Heap.at] at h⟩, by simp only [LSub, List.length_nil]; exact ⟨hv, trivial⟩⟩
end Go.Ae
end
