/- The abstract logic, fourth part: regions, loops, calls. No condition beyond what each lemma states. -/
import Derived.Test.YtghkelfpomfadaaA3
import Derived.Attr
set_option linter.unusedVariables false
set_option linter.unusedSimpArgs false
section
namespace Go.Ae
set_option linter.unusedVariables false
set_option linter.unusedSimpArgs false

/-- A region that draws, all of whose operations may be taken first: in the text's order. -/
def quietK (P : Program) (all : List Oper) : List Oper → Slots → Heap → (Slots → Heap → Prop) → Prop
  | [], s, H, K => K s H
  | o :: rest, s, H, K => match o.guard with
    | none => lightK P o.op s H (fun v H' => quietK P all rest (putS s o.dst v) H' K)
    | some (j, want) => match gslot all j with
      | some d => match s.getD d .any with
        | .r (.lit (.bool b)) =>
          guardK b want (lightK P o.op (s.set d (.lit (.bool want))) H (fun v H' => quietK P all rest (putS (s.set d (.lit (.bool want))) o.dst v) H' K))
            (quietK P all rest (putS (s.set d (.lit (.bool !want))) o.dst (.lit undef)) H K)
        | .r (.lit (.tuple _)) => quietK P all rest (putS s o.dst (.lit undef)) H K
        | _ => False
      | none => False

def lexL (k n : Nat) : List (Nat × Bool) := (List.range' k n).map fun i => (i, true)

theorem quietK_draw {P : Program} {all : List Oper} {K : Slots → Heap → Prop} : ∀ (l : List Oper) (k : Nat) (s : Slots) (H : Heap), (∀ j, l[j]? = all[k + j]?) → quietK P all l s H K = drawK P all (lexL k l.length) s H K
  | [], k, s, H, hl => rfl
  | o :: rest, k, s, H, hl => by
    have h0 : all[k]? = some o := by simpa using (hl 0).symm
    have hl' : ∀ j, rest[j]? = all[k + 1 + j]? := fun j => by have := hl (j + 1); simpa [Nat.add_assoc, Nat.add_comm 1 j] using this
    have ih : ∀ s H, quietK P all rest s H K = drawK P all (lexL (k + 1) rest.length) s H K := fun s H => quietK_draw rest (k + 1) s H hl'
    have e : lexL k (o :: rest).length = (k, true) :: lexL (k + 1) rest.length := by simp [lexL, List.range'_succ]
    rw [e]
    unfold drawK quietK
    simp only [h0, oneD, ih]
    cases hg : o.guard with
    | none => rfl
    | some gw =>
      obtain ⟨j, want⟩ := gw
      simp only
      cases gslot all j with
      | none => rfl
      | some d =>
        simp only
        generalize s.getD d .any = v
        cases v with
        | r x => cases x with
          | lit v => cases v <;> rfl
          | rd _ _ _ => rfl
        | _ => rfl

def quietB (ops : Array Oper) : Bool := drawB true ops (lexL 0 ops.toList.length)

theorem Tri.quietSeq {P : Program} {p : Nat} {s : Slots} {H : Heap} {Q : Exit → Slots → Heap → Prop} {id : Nat} {ops : Array Oper} {y : Code} (hm : P.follows .mixedOrders = true) (hB : quietB ops = true)
    (h : ∀ K : Slots → Heap → Prop, (∀ s' H', Tri P p y s' H' Q → K s' H') → quietK P ops.toList ops.toList s H K) : Tri P p (.seq (.region id ops true) y) s H Q :=
  Tri.drawSeq hm true _ hB fun K hK => by
    have := h K hK
    rw [quietK_draw ops.toList 0 s H (fun j => by simp)] at this
    exact this

theorem Tri.quiet {P : Program} {p : Nat} {s : Slots} {H : Heap} {Q : Exit → Slots → Heap → Prop} {id : Nat} {ops : Array Oper} (hm : P.follows .mixedOrders = true) (hB : quietB ops = true)
    (h : ∀ K : Slots → Heap → Prop, (∀ s' H', Q .normal s' H' → K s' H') → quietK P ops.toList ops.toList s H K) : Tri P p (.region id ops true) s H Q :=
  Tri.draw hm true _ hB fun K hK => by
    have := h K hK
    rw [quietK_draw ops.toList 0 s H (fun j => by simp)] at this
    exact this

/-! ### Frames, ends -/
/-- A frame of n slots, of which some hold something. -/
def mkS (n : Nat) (l : List (Nat × AV)) : Slots := l.foldl (fun s p => s.set p.1 p.2) (List.replicate n .any)

/-- Forget every block. -/
theorem Ent.free {s2 s : Slots} {H : Heap} (h : LSub H (fun _ => True) (fun _ => none) 0 s2 s) : Ent 0 s H s2 [] :=
  ⟨fun _ => True, fun _ => none, ⟨Nat.le_refl _, fun j hj => absurd hj (Nat.not_lt_zero _), fun _ _ _ h => (nomatch h), fun _ _ _ h _ => (nomatch h), fun j b h => by simp [Heap.at] at h⟩, h⟩

/-- The end of a function of plain values that hands back one readable value. -/
theorem EndK.val {P : Program} {rs : List ResultVar} {s : Slots} {H : Heap} {x X : RV} {e : Exit} (he : e = .normal ∨ e = .ret) (h : resAll P s H rs = some [.r x]) (hx : x = X) :
    EndK P 0 rs (fun v H' => v = .r X ∧ H' = []) e s H := by
  subst hx
  exact EndK.plain h (by simp [resOne, VSub, RSub]) he

theorem CallA.congr_args {P : Program} {f : FuncId} {args args' : List AV} {H H' : Heap} {K : AV → Heap → Prop} (h : args = args') (hH : H = H') : CallA P f args H K = CallA P f args' H' K := by rw [h, hH]
theorem CallL.congr_args {P : Program} {f : FuncId} {args args' : List AV} {K : AV → Prop} (h : args = args') : CallL P f args K = CallL P f args' K := by rw [h]
attribute [congr] CallA.congr_args CallL.congr_args
end Go.Ae
end
section
namespace Go.Ae
set_option linter.unusedVariables false
set_option linter.unusedSimpArgs false

/-! ### Calls that hand back blocks of their own -/
mutual
/-- The numbers shifted by d; q: what is only read is kept, too. -/
def shV (q : Bool) (d : Nat) : AV → AV
  | .any => .any
  | .r (.lit v) => .r (.lit v)
  | @AV.r (@RV.rd α inst k enc xs) => if q then .r (.rd k enc xs) else .any
  | .agg cs => .agg (shL q d cs)
  | .tup cs => .tup (shL q d cs)
  | .fn g cs => .fn g (shL q d cs)
  | .ptr id k i f => .ptr (id + d) k i f
  | .sl id k off len => .sl (id + d) k off len
  | .slc id k off len c => .slc (id + d) k off len c
  | .mt => .mt
  | @AV.rp α inst k enc xs i f => if q then .rp k enc xs i f else .any
def shL (q : Bool) (d : Nat) : List AV → List AV
  | [] => []
  | c :: cs => shV q d c :: shL q d cs
end

theorem shL_eq (q : Bool) (d : Nat) : ∀ l : List AV, shL q d l = l.map (shV q d)
  | [] => by simp only [shL, List.map_nil]
  | c :: cs => by simp only [shL, List.map_cons, shL_eq q d cs]

def Blk.sh (q : Bool) (d : Nat) : Blk → Blk
  | .cells l => .cells (shL q d l)
  | @Blk.rows _ _ k enc xs => .rows k (fun x => shL q d (enc x)) xs
  | .raw k l => .raw k (l.map (shL q d))

theorem Blk.sh_k (q : Bool) (d : Nat) (b : Blk) : (b.sh q d).k = b.k := by
  cases b <;> simp [Blk.sh, Blk.k, shL_eq]
theorem Blk.sh_L (q : Bool) (d : Nat) (b : Blk) : (b.sh q d).L = b.L.map (shL q d) := by
  cases b <;> simp [Blk.sh, Blk.L, Function.comp_def]

theorem shV_rel {γ' γ2 : Gh} {w : World} {q : Bool} {d : Nat} (hn : ∀ id, id < γ'.n → id + d < γ2.n ∧ γ2.ρ (id + d) = γ'.ρ id ∧ γ2.m (id + d) = γ'.m id) (hR : q = true → ∀ x, γ'.R x → γ2.R x) {v : AV} {u : Value}
    (h : Rel γ' w v u) : Rel γ2 w (shV q d v) u := by
  induction h with
  | any v => simp only [shV]; exact .any _
  | @r x v h =>
    cases x with
    | lit y =>
      simp only [shV]
      cases h
      exact .r (.lit _)
    | rd k enc xs =>
      simp only [shV]
      cases q with
      | true => exact .r (h.mono (hR rfl) fun _ _ => rfl)
      | false => exact .any _
  | agg cs vs hl _ ih =>
    simp only [shV, shL_eq]
    refine .agg _ _ (by simp [hl]) fun i c v hc hv => ?_
    rw [List.getElem?_map, Option.map_eq_some_iff] at hc
    obtain ⟨c0, h0, rfl⟩ := hc
    exact ih i c0 v h0 hv
  | tup cs vs hl _ ih =>
    simp only [shV, shL_eq]
    refine .tup _ _ (by simp [hl]) fun i c v hc hv => ?_
    rw [List.getElem?_map, Option.map_eq_some_iff] at hc
    obtain ⟨c0, h0, rfl⟩ := hc
    exact ih i c0 v h0 hv
  | fn g cs vs hl _ ih =>
    simp only [shV, shL_eq]
    refine .fn _ _ _ (by simp [hl]) fun i c v hc hv => ?_
    rw [List.getElem?_map, Option.map_eq_some_iff] at hc
    obtain ⟨c0, h0, rfl⟩ := hc
    exact ih i c0 v h0 hv
  | ptr id k i f x h1 h =>
    simp only [shV]
    exact .ptr _ _ _ _ x (hn id h1).1 (by rw [(hn id h1).2.1]; exact h)
  | sl id k off len x c h1 h hl hm =>
    simp only [shV]
    exact .sl _ _ _ _ x c (hn id h1).1 (by rw [(hn id h1).2.1]; exact h) hl (by rw [(hn id h1).2.2]; exact hm)
  | slc id k off len x c h1 h hl hm =>
    simp only [shV]
    exact .slc _ _ _ _ x c (hn id h1).1 (by rw [(hn id h1).2.1]; exact h) hl (by rw [(hn id h1).2.2]; exact hm)
  | slz id k off A h1 => simp only [shV]; exact .slz _ _ _ A (hn id h1).1
  | mt A => simp only [shV]; exact .mt A
  | rp k enc xs i f b o u hb hlen hcell hrel =>
    simp only [shV]
    cases q with
    | true => exact .rp k enc xs i f b o u (hR rfl b hb) hlen hcell fun i x f v h1 h2 => (hrel i x f v h1 h2).mono (hR rfl) fun _ _ => rfl
    | false => exact .any _

theorem at_append_old {H H' : Heap} {id : Nat} (h : id < H.length) : Heap.at (H ++ H') id = H.at id := by
  unfold Heap.at
  rw [List.getD_eq_getElem?_getD, List.getD_eq_getElem?_getD, List.getElem?_append_left h]
theorem at_append_new {H H' : Heap} {id : Nat} (h : H.length ≤ id) : Heap.at (H ++ H') id = Heap.at H' (id - H.length) := by
  unfold Heap.at
  rw [List.getD_eq_getElem?_getD, List.getD_eq_getElem?_getD, List.getElem?_append_right h]
theorem at_map {H : Heap} {f : Blk → Blk} {id : Nat} {b : Blk} (h : Heap.at (H.map (Option.map f)) id = some b) : ∃ c, H.at id = some c ∧ b = f c := by
  unfold Heap.at at h ⊢
  rw [List.getD_eq_getElem?_getD, List.getElem?_map] at h
  rw [List.getD_eq_getElem?_getD]
  cases hh : H[id]? with
  | none => rw [hh] at h; cases h
  | some c =>
    rw [hh] at h
    cases c with
    | none => cases h
    | some c => simp only [Option.map_some, Option.getD_some, Option.some.injEq] at h ⊢; exact ⟨c, rfl, h.symm⟩

/-- The heap behind a call that laid H'. -/
def Heap.with (q : Bool) (H H' : Heap) : Heap := H ++ H'.map (Option.map (Blk.sh q H.length))

theorem with_core {γ γ0 γ' : Gh} {w w' : World} {H H' : Heap} {q : Bool} (hs : Sat γ w H) (ev : Evo 0 γ0 [] w γ' H' w') (hs' : Sat γ' w' H') (hR0 : q = true → ∀ x, γ0.R x ↔ γ.R x) :
    ∃ γ2 : Gh, Sat γ2 w' (H.with q H') ∧ Evo H.length γ H w γ2 (H.with q H') w' ∧ ∀ v u, Rel γ' w' v u → Rel γ2 w' (shV q H.length v) u := by
  have hnoL : ∀ x, ¬ γ0.L [] x := fun x ⟨id, b, h, _⟩ => by simp [Heap.at] at h
  have hkeep : ∀ x, x < w.heap.size → w'.heap[x]? = w.heap[x]? := fun x hx => ev.keep x hx (hnoL x)
  have hkR : ∀ b, γ.R b → w'.heap[b]? = w.heap[b]? := fun b hb => hkeep b (hs.rd b hb).1
  have hnew : ∀ x, γ'.L H' x → w.heap.size ≤ x := fun x hx => (ev.L x hx).elim (fun h => absurd h (hnoL x)) id
  let γ2 : Gh := { ρ := fun id => if id < H.length then γ.ρ id else γ'.ρ (id - H.length), m := fun id => if id < H.length then γ.m id else γ'.m (id - H.length), R := fun x => γ.R x ∨ (q = true ∧ γ'.R x), n := H.length + H'.length }
  have hn : ∀ id, id < γ'.n → id + H.length < γ2.n ∧ γ2.ρ (id + H.length) = γ'.ρ id ∧ γ2.m (id + H.length) = γ'.m id := fun id hid => by
    have : γ'.n = H'.length := hs'.n
    refine ⟨by show id + H.length < H.length + H'.length; omega, ?_, ?_⟩ <;> (simp [γ2]; intro hh; omega)
  have hrel : ∀ v u, Rel γ' w' v u → Rel γ2 w' (shV q H.length v) u := fun v u h => shV_rel hn (fun hq x hx => .inr ⟨hq, hx⟩) h
  have hold : ∀ id, id < H.length → (H.with q H').at id = H.at id := fun id h => at_append_old h
  have hρold : ∀ id, id < H.length → γ2.ρ id = γ.ρ id ∧ γ2.m id = γ.m id := fun id h => by simp [γ2, h]
  have hnewat : ∀ id b, H.length ≤ id → (H.with q H').at id = some b → ∃ c, H'.at (id - H.length) = some c ∧ b = c.sh q H.length := fun id b h1 h2 => by
    unfold Heap.with at h2
    rw [at_append_new h1] at h2
    exact at_map h2
  have hρnew : ∀ id, H.length ≤ id → γ2.ρ id = γ'.ρ (id - H.length) ∧ γ2.m id = γ'.m (id - H.length) := fun id h => by
    have : ¬ id < H.length := by omega
    simp [γ2, this]
  have hL2 : ∀ x, γ2.L (H.with q H') x → γ.L H x ∨ γ'.L H' x := by
    rintro x ⟨id, b, h1, h2⟩
    rcases Nat.lt_or_ge id H.length with h | h
    · rw [hold id h] at h1
      rw [(hρold id h).1] at h2
      exact .inl ⟨id, b, h1, h2⟩
    · obtain ⟨c, h3, _⟩ := hnewat id b h h1
      rw [(hρnew id h).1] at h2
      exact .inr ⟨_, c, h3, h2⟩
  have hR2 : ∀ x, γ2.R x → γ.R x ∨ (w.heap.size ≤ x ∧ γ'.R x) := by
    rintro x (h | ⟨hq, h⟩)
    · exact .inl h
    · rcases ev.R' x h with h1 | h1 | h1
      · exact .inl ((hR0 hq x).1 h1)
      · exact absurd h1 (hnoL x)
      · exact .inr ⟨h1, h⟩
  refine ⟨γ2, ⟨?_, ?_, ?_, ?_⟩, ⟨?_, fun x hx => .inl hx, fun x hx => ?_, fun x hx => ?_, ev.os, ev.tape, ev.output, ev.size, fun x hx _ => hkeep x hx⟩, hrel⟩
  · simp [γ2, Heap.with]
  · intro id b hb
    rcases Nat.lt_or_ge id H.length with h | h
    · rw [hold id h] at hb
      rw [(hρold id h).1, (hρold id h).2]
      have := hs.blk id b hb
      unfold BOk at this ⊢
      cases hid : γ.ρ id with
      | none => rw [hid] at this; exact this
      | some x =>
        rw [hid] at this
        obtain ⟨vs, t, h1, h2, h3⟩ := this
        exact ⟨vs, t, by rw [hkeep x (hs.lt hb hid)]; exact h1, h2, BRel.mono (γ := γ) (γ' := γ2) (by show γ.n ≤ H.length + H'.length; rw [hs.n]; omega)
          (fun id hid => by rw [hs.n] at hid; exact hρold id hid) (fun x hx => .inl hx) hkR h3⟩
    · obtain ⟨c, h3, rfl⟩ := hnewat id b h hb
      rw [(hρnew id h).1, (hρnew id h).2]
      have := hs'.blk _ c h3
      unfold BOk at this ⊢
      cases hid : γ'.ρ (id - H.length) with
      | none =>
        rw [hid] at this
        simp only at this ⊢
        rw [Blk.sh_L, this]; rfl
      | some x =>
        rw [hid] at this
        obtain ⟨vs, t, h1, h2, h4⟩ := this
        refine ⟨vs, t, h1, h2, ⟨fun i row hr => ?_, by rw [Blk.sh_L, Blk.sh_k, List.length_map]; exact h4.sz, fun i row f v u hr hf hu => ?_⟩⟩
        · rw [Blk.sh_L, List.getElem?_map, Option.map_eq_some_iff] at hr
          obtain ⟨r0, h5, rfl⟩ := hr
          rw [Blk.sh_k, shL_eq, List.length_map]
          exact h4.len i r0 h5
        · rw [Blk.sh_L, List.getElem?_map, Option.map_eq_some_iff] at hr
          obtain ⟨r0, h5, rfl⟩ := hr
          rw [shL_eq, List.getElem?_map, Option.map_eq_some_iff] at hf
          obtain ⟨v0, h6, rfl⟩ := hf
          rw [Blk.sh_k] at hu
          exact hrel _ _ (h4.rel i r0 f v0 u h5 h6 hu)
  · intro id id' b b' x h1 h2 h3 h4
    rcases Nat.lt_or_ge id H.length with h | h
    · rw [hold id h] at h1
      rw [(hρold id h).1] at h3
      rcases Nat.lt_or_ge id' H.length with h' | h'
      · rw [hold id' h'] at h2
        rw [(hρold id' h').1] at h4
        exact hs.inj id id' b b' x h1 h2 h3 h4
      · obtain ⟨c, h5, _⟩ := hnewat id' b' h' h2
        rw [(hρnew id' h').1] at h4
        have e1 := hs.lt h1 h3
        have e2 := hnew x ⟨_, c, h5, h4⟩
        omega
    · obtain ⟨c, h5, _⟩ := hnewat id b h h1
      rw [(hρnew id h).1] at h3
      rcases Nat.lt_or_ge id' H.length with h' | h'
      · rw [hold id' h'] at h2
        rw [(hρold id' h').1] at h4
        have e1 := hs.lt h2 h4
        have e2 := hnew x ⟨_, c, h5, h3⟩
        omega
      · obtain ⟨c', h6, _⟩ := hnewat id' b' h' h2
        rw [(hρnew id' h').1] at h4
        have := hs'.inj _ _ c c' x h5 h6 h3 h4
        omega
  · intro x hx
    rcases hR2 x hx with h | ⟨h1, h2⟩
    · refine ⟨Nat.lt_of_lt_of_le (hs.rd x h).1 ev.size, fun hl => ?_⟩
      rcases hL2 x hl with h3 | h3
      · exact (hs.rd x h).2 h3
      · have e1 := (hs.rd x h).1
        have e2 := hnew x h3
        omega
    · refine ⟨(hs'.rd x h2).1, fun hl => ?_⟩
      rcases hL2 x hl with h3 | h3
      · have := hs.L_lt h3
        omega
      · exact (hs'.rd x h2).2 h3
  · exact fun id hid => hρold id hid
  · rcases hR2 x hx with h | h
    · exact .inl h
    · exact .inr (.inr h.1)
  · rcases hL2 x hx with h | h
    · exact .inl h
    · exact .inr (hnew x h)

/-- A call that looks at blocks of ours and hands back numbers, or blocks of its own. -/
theorem CallA.fresh {P : Program} {f : FuncId} {args args2 : List AV} {H : Heap} {K : AV → Heap → Prop} {Post : AV → Heap → Prop} (h : Does P f 0 args2 [] Post)
    (hsub : LSub H (fun _ => True) (fun _ => none) 0 args2 args) (hK : ∀ v H', Post v H' → K (shV false H.length v) (H.with false H')) : CallA P f args H K := by
  refine ⟨fun γ w us hs hl hr => ?_⟩
  let γ0 := γ.re H (fun _ => True) (fun _ => none) 0
  have hs0 : Sat γ0 w [] := ⟨rfl, fun id b h => by simp [Heap.at] at h, fun id id' b b' x h => by simp [Heap.at] at h, fun x hx => ⟨by
    rcases hx with hx | ⟨id, b, _, hb, hx⟩
    · exact (hs.rd x hx).1
    · exact hs.lt hb hx, fun ⟨id, b, h, _⟩ => by simp [Heap.at] at h⟩⟩
  obtain ⟨g1, g2⟩ := hsub.get
  refine (h γ0 w us hs0 (g1.trans hl) fun i c v h1 h2 => ?_).mono ?_
  · have hi : i < args.length := by rw [← g1]; exact (List.getElem?_eq_some_iff.1 h1).1
    exact VSub.rel hs (hr i _ v (List.getElem?_eq_getElem hi) h2) (g2 i c _ h1 (List.getElem?_eq_getElem hi))
  · rintro e w' ⟨u, γ', v, H', rfl, hP, _, ev, hs', hv⟩
    obtain ⟨γ2, a1, a2, a3⟩ := with_core (q := false) hs ev hs' (fun h => by cases h)
    exact ⟨u, γ2, _, _, rfl, hK v H' hP, by simp [Heap.with], a2, a1, a3 v u hv⟩

/-- A call that gets no block of ours. -/
theorem CallA.own {P : Program} {f : FuncId} {args : List AV} {H : Heap} {K : AV → Heap → Prop} {Post : AV → Heap → Prop} (h : Does P f 0 args [] Post)
    (hfree : LSub [] (fun _ => False) (fun _ => none) 0 args args) (hK : ∀ v H', Post v H' → K (shV true H.length v) (H.with true H')) : CallA P f args H K := by
  refine ⟨fun γ w us hs hl hr => ?_⟩
  let γ0 : Gh := { ρ := fun _ => none, m := fun _ => 0, R := γ.R, n := 0 }
  have hs0 : Sat γ0 w [] := ⟨rfl, fun id b h => by simp [Heap.at] at h, fun id id' b b' x h => by simp [Heap.at] at h, fun x hx => ⟨(hs.rd x hx).1, fun ⟨id, b, h, _⟩ => by simp [Heap.at] at h⟩⟩
  have hr0 : ∀ (i : Nat) (c : AV) (v : Value), args[i]? = some c → us[i]? = some v → Rel γ0 w c v := fun i c v h1 h2 => by
    have hsub : VSub H (fun _ => False) (fun _ => none) 0 c c := (hfree.get.2 i c c h1 h1).heap
    have h3 := VSub.rel hs (hr i c v h1 h2) hsub
    refine Rel.mono (γ := γ.re H (fun _ => False) (fun _ => none) 0) (γ' := γ0) (Nat.le_refl _) (fun id h => absurd h (Nat.not_lt_zero _)) (fun b hb => ?_) (fun _ _ => rfl) h3
    rcases hb with hb | ⟨_, _, hb, _⟩
    · exact hb
    · exact hb.elim
  refine (h γ0 w us hs0 hl hr0).mono ?_
  rintro e w' ⟨u, γ', v, H', rfl, hP, _, ev, hs', hv⟩
  obtain ⟨γ2, a1, a2, a3⟩ := with_core (q := true) (γ0 := γ0) hs ev hs' (fun _ x => Iff.rfl)
  exact ⟨u, γ2, _, _, rfl, hK v H' hP, by simp [Heap.with], a2, a1, a3 v u hv⟩

/-- A call that is walked where it stands. -/
theorem CallA.enter {P : Program} {f : FuncId} {args : List AV} {H : Heap} {K : AV → Heap → Prop} (h : Does P f H.length args H K) : CallA P f args H K := ⟨h⟩
end Go.Ae
end
section
namespace Go.Ae
set_option linter.unusedVariables false
set_option linter.unusedSimpArgs false

/-! ### The room of a slice made known; rows told further -/
theorem SRel.slot {γ : Gh} {w : World} {s : Slots} {a : Act} (h : SRel γ w s a) {j : Nat} {v0 v : AV} (hj : s[j]? = some v0) (hv : ∀ u, Rel γ w v0 u → Rel γ w v u) : SRel γ w (s.set j v) a := by
  refine ⟨h.d, by simp [h.n], fun i v' u h1 h2 => ?_⟩
  rw [List.getElem?_set] at h1
  split at h1
  · rename_i hi
    subst hi
    split at h1
    · cases h1
      exact hv u (h.r j v0 u hj h2)
    · cases h1
  · exact h.r i v' u h1 h2

/-- The room of the slice in slot j made known. -/
theorem Tri.caps {P : Program} {p : Nat} {c : Code} {s : Slots} {H : Heap} {Q : Exit → Slots → Heap → Prop} (j : Nat) {id k off len : Nat} (hj : s[j]? = some (.sl id k off len))
    (h1 : ∀ cap, len ≤ cap → Tri P p c (s.set j (.slc id k off len cap)) H Q) (h2 : len = 0 → Tri P p c (s.set j .mt) H Q) : Tri P p c s H Q := by
  refine ⟨fun γ a w hp hs hr => ?_⟩
  have hlt : j < s.length := (List.getElem?_eq_some_iff.1 hj).1
  have hla : j < a.tmps.size := by rw [hr.n]; exact hlt
  have hv := hr.r j _ _ hj (Array.getElem?_eq_getElem hla)
  generalize hu : a.tmps[j] = u at hv
  have put : ∀ v, Rel γ w v u → SRel γ w (s.set j v) a := fun v hv => by
    refine ⟨hr.d, by simp [hr.n], fun i v' u' g1 g2 => ?_⟩
    rw [List.getElem?_set] at g1
    split at g1
    · rename_i hi
      subst hi
      cases g1
      rw [Array.getElem?_eq_getElem hla, hu] at g2
      cases g2
      exact hv
    · exact hr.r i v' u' g1 g2
  cases hv with
  | sl _ _ _ _ x cap hid hx hc hcm => exact (h1 cap hc).run γ a w hp hs (put _ (.slc _ _ _ _ x cap hid hx hc hcm))
  | slz _ _ _ A hid => exact (h2 rfl).run γ a w hp hs (put _ (.mt A))

/-- Rows of nothing told. -/
def anyRows (k n : Nat) : List (List AV) := List.replicate n (List.replicate k .any)

theorem Sat.extend {γ : Gh} {w : World} {H : Heap} (hs : Sat γ w H) {id x r : Nat} {b : Blk} (hb : H.at id = some b) (hx : γ.ρ id = some x) (hr : (b.L.length + r) * b.k ≤ γ.m id) :
    Sat γ w (H.put id (.raw b.k (b.L ++ anyRows b.k r))) ∧ Evo H.length γ H w γ (H.put id (.raw b.k (b.L ++ anyRows b.k r))) w := by
  have h1 := hs.blk id b hb
  rw [hx] at h1
  obtain ⟨vs, t, h2, hm, h3⟩ := h1
  refine hs.put hb hx (fun _ _ => rfl) rfl ⟨vs, t, h2, hm, ⟨fun i row hi => ?_, ?_, fun i row f v u hi hf hu => ?_⟩⟩ rfl rfl rfl
  · have : row ∈ b.L ++ anyRows b.k r := List.mem_of_getElem? hi
    rcases List.mem_append.1 this with h | h
    · obtain ⟨j, hj⟩ := List.mem_iff_getElem?.1 h
      exact h3.len j row hj
    · rw [List.eq_of_mem_replicate h]
      simp [Blk.k]
  · simp only [Blk.L, Blk.k, List.length_append, anyRows, List.length_replicate]
    rw [hm]
    exact hr
  · have hi : (b.L ++ anyRows b.k r)[i]? = some row := hi
    rcases Nat.lt_or_ge i b.L.length with hlt | hge
    · rw [List.getElem?_append_left hlt] at hi
      exact h3.rel i row f v u hi hf hu
    · rw [List.getElem?_append_right hge] at hi
      have := List.eq_of_mem_replicate (List.mem_of_getElem? hi)
      subst this
      have := List.eq_of_mem_replicate (List.mem_of_getElem? hf)
      subst this
      exact .any _

/-- The rows of the block under slot j's slice told as far as its room goes. -/
theorem Tri.extend {P : Program} {p : Nat} {c : Code} {s : Slots} {H : Heap} {Q : Exit → Slots → Heap → Prop} (j r : Nat) {id k off len cap : Nat} {b : Blk} (hj : s[j]? = some (.slc id k off len cap)) (hb : H.at id = some b) (hbk : b.k = k)
    (hr : b.L.length + r ≤ off + cap) (h : Tri P p c s (H.put id (.raw k (b.L ++ anyRows k r))) Q) : Tri P p c s H Q := by
  refine ⟨fun γ a w hp hs hr' => ?_⟩
  have hla : j < a.tmps.size := by rw [hr'.n]; exact (List.getElem?_eq_some_iff.1 hj).1
  have hv := hr'.r j _ _ hj (Array.getElem?_eq_getElem hla)
  generalize a.tmps[j] = u at hv
  cases hv with
  | slc _ _ _ _ x _ hid hx hc hcm =>
    subst hbk
    obtain ⟨g1, g2⟩ := hs.extend hb hx (r := r) (by
      have := Nat.mul_le_mul_right b.k hr
      rw [Nat.add_mul off] at this
      omega)
    refine wp_mono (h.run γ a w (by simpa [Heap.put] using hp) g1 hr') ?_
    rintro e a' w' ⟨γ', s', H', q, hp', ev, hs', hr''⟩
    exact ⟨γ', s', H', q, hp', (Evo.trans ⟨fun id hid => g2.ρ id (Nat.lt_of_lt_of_le hid hp), g2.R, g2.R', g2.L, g2.os, g2.tape, g2.output, g2.size, g2.keep⟩ ev), hs', hr''⟩

/-! ### Retelling with the first blocks kept -/
/-- Block by block: the new telling of a heap's front. -/
def HAll (H : Heap) (F : Nat → Prop) (τ : Nat → Option Nat) (n : Nat) : Heap → Heap → Prop
  | [], _ => True
  | none :: t, _ :: t' => HAll H F τ n t t'
  | some b2 :: t, some b :: t' => BSub H F τ n b2 b ∧ HAll H F τ n t t'
  | _, _ => False

theorem HAll.at {H : Heap} {F : Nat → Prop} {τ : Nat → Option Nat} {n : Nat} : ∀ {H2 H1 : Heap}, HAll H F τ n H2 H1 → ∀ j b2, Heap.at H2 j = some b2 → ∃ b, Heap.at H1 j = some b ∧ BSub H F τ n b2 b
  | [], _, _, j, b2, hj => by simp [Heap.at] at hj
  | none :: t, [], h, j, b2, hj => by simp [HAll] at h
  | some b :: t, [], h, j, b2, hj => by simp [HAll] at h
  | none :: t, x :: t', h, j, b2, hj => by
    simp only [HAll] at h
    cases j with
    | zero => simp [Heap.at] at hj
    | succ j =>
      have := HAll.at h j b2 (by simpa [Heap.at] using hj)
      simpa [Heap.at] using this
  | some b :: t, none :: t', h, j, b2, hj => by simp [HAll] at h
  | some b :: t, some b' :: t', h, j, b2, hj => by
    simp only [HAll] at h
    cases j with
    | zero =>
      simp [Heap.at] at hj
      subst hj
      exact ⟨b', by simp [Heap.at], h.1⟩
    | succ j =>
      have := HAll.at h.2 j b2 (by simpa [Heap.at] using hj)
      simpa [Heap.at] using this

/-- The identity on the first n numbers. -/
def idτ (n : Nat) : Nat → Option Nat := fun j => if j < n then some j else none

theorem Ent.keep {p : Nat} {s2 s : Slots} {H H2 : Heap} (hp : p ≤ H2.length) (hH : HAll H (fun id => H2.length ≤ id) (idτ H2.length) H2.length H2 H) (h : LSub H (fun id => H2.length ≤ id) (idτ H2.length) H2.length s2 s) : Ent p s H s2 H2 := by
  refine ⟨fun id => H2.length ≤ id, idτ H2.length, ⟨hp, fun j hj => ?_, fun id hid j hj => ?_, fun j j' i h1 h2 => ?_, fun j b2 hj => ?_⟩, h⟩
  · unfold idτ; rw [if_pos (by omega)]
  · unfold idτ at hj
    split at hj
    · cases hj; omega
    · cases hj
  · unfold idτ at h1 h2
    split at h1
    · split at h2
      · cases h1; cases h2; rfl
      · cases h2
    · cases h1
  · have hlt := at_lt hj
    have : idτ H2.length j = some j := by unfold idτ; rw [if_pos hlt]
    rw [this]
    exact hH.at j b2 hj

/-- The end of a function: the results told as v2, the heap as H2. -/
theorem EndK.tell {P : Program} {p : Nat} {rs : List ResultVar} {s : Slots} {H : Heap} {vs : List AV} {v2 : AV} {H2 : Heap} {Post : AV → Heap → Prop} {e : Exit} (he : e = .normal ∨ e = .ret) (h : resAll P s H rs = some vs)
    (hE : Ent p [resOne vs] H [v2] H2) (hP : Post v2 H2) : EndK P p rs Post e s H := by
  have hh : ∃ vs, resAll P s H rs = some vs ∧ ∃ v2 H2, Ent p [resOne vs] H [v2] H2 ∧ Post v2 H2 := ⟨vs, h, v2, H2, hE, hP⟩
  rcases he with rfl | rfl <;> exact hh
end Go.Ae
namespace Go.Ae
/-! ### One operation at a time -/
structure RegS (P : Program) (all l : List Oper) (s : Slots) (H : Heap) (K : Slots → Heap → Prop) : Prop where
  run : regK P all l s H K
structure QuietS (P : Program) (all l : List Oper) (s : Slots) (H : Heap) (K : Slots → Heap → Prop) : Prop where
  run : quietK P all l s H K
section
variable {P : Program} {all rest : List Oper} {s : Slots} {H : Heap} {K : Slots → Heap → Prop}
theorem RegS.step {o : Oper} (h : ∀ K' : Slots → Heap → Prop, (∀ s' H', RegS P all rest s' H' K → K' s' H') → regK P all [o] s H K') : RegS P all (o :: rest) s H K := ⟨h (fun s' H' => regK P all rest s' H' K) fun _ _ h => h.run⟩
theorem QuietS.step {o : Oper} (h : ∀ K' : Slots → Heap → Prop, (∀ s' H', QuietS P all rest s' H' K → K' s' H') → quietK P all [o] s H K') : QuietS P all (o :: rest) s H K := ⟨h (fun s' H' => quietK P all rest s' H' K) fun _ _ h => h.run⟩
theorem RegS.nil (h : K s H) : RegS P all [] s H K := ⟨h⟩
theorem QuietS.nil (h : K s H) : QuietS P all [] s H K := ⟨h⟩
end
end Go.Ae
end
section
namespace Go.Ae
attribute [go_sem ↓] convK convI byteK regK stepK guardK_tt guardK_ff guardK_tf guardK_ft loadK storeK lenK addrK binK unK sliceK noUp nilK appendK builtinK quietK lightK binL aggK nilCmpK numV truncV overK slOf capK copyK clearK appendC
attribute [go_sem] fieldV dropA takeA nthA undef guardK_t guardK_f aggEq litEq lenV rowsOf0 splice shV shL Heap.with Blk.sh Option.map_some Option.map_none decide_true decide_false ev putS lift intBin intBinOk strBin gslot pickV cellsOf packV over bnd Heap.at Heap.put rowsOf topRows dropD Heap.drop1 fillA repL litRows AV.one Value.oneCell' List.set List.getD_cons_zero List.getD_cons_succ List.getElem?_cons_zero List.getElem?_cons_succ List.length_cons List.length_nil List.map_cons List.map_nil List.take_succ_cons List.take_zero List.drop_succ_cons List.drop_zero List.all_cons List.all_nil List.cons_append List.nil_append List.append_nil List.length_append List.length_map List.forall_mem_cons List.not_mem_nil List.length_replicate Blk.k Blk.L Nat.zero_add Nat.add_zero true_and and_true true_implies false_implies implies_true forall_const Bool.not_true Bool.not_false Bool.false_eq_true Bool.true_eq_false Bool.and_true Bool.true_and Bool.and_self cond_true cond_false decide_eq_true_eq decide_eq_false_iff_not Int.not_le Int.not_lt beq_iff_eq bne_iff_ne beq_eq_false_iff_ne bne_eq_false_iff_eq ne_eq not_false_eq_true not_true_eq_false if_true if_false ite_true ite_false Option.join Option.isSome Int.toNat_natCast Int.toNat_zero
end Go.Ae
end
section
namespace Go.Ae
set_option linter.unusedVariables false
set_option linter.unusedSimpArgs false

/-- What a loop that may hand back comes to. -/
inductive Fl (ρ σ : Type) where
  | ret (r : ρ) : Fl ρ σ
  | go (s : σ) : Fl ρ σ

/-! ### One telling out of another, piece by piece -/
section
variable {H : Heap} {F : Nat → Prop} {τ : Nat → Option Nat} {n : Nat}
theorem LSub.nil' : LSub H F τ n [] [] := by simp only [LSub]
theorem LSub.cons' {c d : AV} {cs ds : List AV} (h : VSub H F τ n c d) (hs : LSub H F τ n cs ds) : LSub H F τ n (c :: cs) (d :: ds) := by simp only [LSub]; exact ⟨h, hs⟩
theorem VSub.any' {v : AV} : VSub H F τ n .any v := by simp only [VSub]
theorem VSub.same {x : RV} : VSub H F τ n (.r x) (.r x) := by simp only [VSub, RSub]; exact .inl trivial
theorem VSub.lit {k : IntKind} {a b : Int} (h : a = b) : VSub H F τ n (.r (.lit (.int k a))) (.r (.lit (.int k b))) := h ▸ VSub.same
theorem VSub.eqr {x y : RV} (h : x = y) : VSub H F τ n (.r x) (.r y) := h ▸ VSub.same
theorem VSub.nilRd {α : Type} {i : Inhabited α} {k : Nat} {enc : α → List RV} : VSub H F τ n (.r (.rd k enc [])) (.r (.lit (.slice none 0 0))) := by
  simp only [VSub, RSub]; exact .inr ⟨trivial, α, i, k, enc, rfl⟩
theorem VSub.mtRd {α : Type} {i : Inhabited α} {k : Nat} {enc : α → List RV} : VSub H F τ n (.r (.rd k enc [])) .mt := by
  simp only [VSub, RSub]; exact ⟨α, i, k, enc, rfl⟩
theorem VSub.agg' {cs ds : List AV} (h : LSub H F τ n cs ds) : VSub H F τ n (.agg cs) (.agg ds) := by simp only [VSub]; exact h
theorem VSub.tup' {cs ds : List AV} (h : LSub H F τ n cs ds) : VSub H F τ n (.tup cs) (.tup ds) := by simp only [VSub]; exact h
theorem VSub.ptr' {id id' k i f : Nat} (h0 : Nat.blt id n = true) (h2 : τ id = some id') : VSub H F τ n (.ptr id k i f) (.ptr id' k i f) := by
  have h1 : id < n := by simpa using h0
  simp only [VSub]; simp [h1, h2]
theorem VSub.sl' {id id' k off len len' : Nat} (h0 : Nat.blt id n = true) (h2 : τ id = some id') (h : len' = len) : VSub H F τ n (.sl id k off len') (.sl id' k off len) := by
  have h1 : id < n := by simpa using h0
  subst h; simp only [VSub]; simp [h1, h2]
/-- Two numbers are one: told later. -/
def LenEq (a b : Nat) : Prop := a = b
theorem LenEq.mk {a b : Nat} (h : a = b) : LenEq a b := h
theorem VSub.slD {id id' k off len len' : Nat} (h0 : Nat.blt id n = true) (h2 : τ id = some id') (h : LenEq len' len) : VSub H F τ n (.sl id k off len') (.sl id' k off len) := VSub.sl' h0 h2 h
theorem VSub.slNil {id k len : Nat} (h0 : Nat.blt id n = true) (h : len = 0) : VSub H F τ n (.sl id k 0 len) (.r (.lit (.slice none 0 0))) := by
  have h1 : id < n := by simpa using h0
  subst h; simp only [VSub]; simp [h1]

/-- Rows that tell things of one kind. -/
def RowsAre {α : Type} (enc : α → List RV) (xs : List α) (L : List (List AV)) : Prop := L = xs.map fun x => (enc x).map AV.r
def RowIs {α : Type} (enc : α → List RV) (x : α) (row : List AV) : Prop := row = (enc x).map AV.r
theorem RowsAre.map {α : Type} {enc : α → List RV} {xs : List α} : RowsAre enc xs (xs.map fun x => (enc x).map AV.r) := rfl
theorem RowsAre.nil {α : Type} {enc : α → List RV} : RowsAre enc [] [] := rfl
theorem RowsAre.cons {α : Type} {enc : α → List RV} {x : α} {xs : List α} {row : List AV} {L : List (List AV)} (h : RowIs enc x row) (hs : RowsAre enc xs L) : RowsAre enc (x :: xs) (row :: L) := by
  unfold RowsAre RowIs at *; subst h hs; rfl
theorem RowsAre.app {α : Type} {enc : α → List RV} {xs ys : List α} {L M : List (List AV)} (h : RowsAre enc xs L) (hs : RowsAre enc ys M) : RowsAre enc (xs ++ ys) (L ++ M) := by
  unfold RowsAre at *; subst h hs; rw [List.map_append]
theorem RowIs.refl {α : Type} {enc : α → List RV} {x : α} : RowIs enc x ((enc x).map AV.r) := rfl

theorem VSub.frz {α : Type} {i : Inhabited α} {k : Nat} {enc : α → List RV} {xs : List α} {id len : Nat} {b : Blk} (hF : F id) (hb : H.at id = some b) (hk : b.k = k) (hx : RowsAre enc xs b.L) (hl : len = xs.length) :
    VSub H F τ n (.r (.rd k enc xs)) (.sl id k 0 len) := by
  have hL : b.L.length = len := by rw [hx, List.length_map, hl]
  simp only [VSub, RSub]
  refine ⟨hF, α, inferInstance, enc, xs, b, rfl, hl.symm, hb, hk, by omega, ?_⟩
  rw [List.drop_zero, List.take_of_length_le (by omega)]
  exact hx
theorem VSub.fn' {g : FuncId} {cs ds : List AV} (h : LSub H F τ n cs ds) : VSub H F τ n (.fn g cs) (.fn g ds) := by
  unfold VSub; exact ⟨rfl, h⟩
theorem VSub.rpSame {α : Type} {_i : Inhabited α} {k i f : Nat} {enc : α → List RV} {xs : List α} : VSub H F τ n (.rp k enc xs i f) (.rp k enc xs i f) := by
  unfold VSub; exact .inl rfl
theorem VSub.rpF {α : Type} {_i : Inhabited α} {k i f id : Nat} {enc : α → List RV} {xs : List α} {b : Blk} (hF : F id) (hb : H.at id = some b) (hk : b.k = k) (hL : RowsAre enc xs b.L) :
    VSub H F τ n (.rp k enc xs i f) (.ptr id k i f) := by
  unfold VSub; exact .inr ⟨hF, rfl, rfl, rfl, b, hb, hk, hL⟩
theorem BSub.cells' {l2 l : List AV} (h : LSub H F τ n l2 l) : BSub H F τ n (.cells l2) (.cells l) := BSub.cells h
/-- A part of the rows from the first one on. -/
theorem BSub.pre {α : Type} {i : Inhabited α} {k : Nat} {renc : α → List RV} {xs : List α} {b : Blk} (m : Nat) (hk : b.k = k) (hL : RowsAre renc xs (b.L.take m)) : BSub H F τ n (.rows k (fun x => (renc x).map AV.r) xs) b := by
  unfold RowsAre at hL
  refine ⟨hk.symm, ?_, fun j r2 r h1 h2 => ?_⟩
  · have := congrArg List.length hL
    simp only [List.length_take, List.length_map] at this
    have h0 : (Blk.rows k (fun x => (renc x).map AV.r) xs).L.length = xs.length := List.length_map ..
    rw [h0]
    omega
  · have h3 : (b.L.take m)[j]? = some r2 := by rw [hL]; exact h1
    have h4 := h3
    rw [List.getElem?_take] at h4
    split at h4
    · rw [h2] at h4
      cases h4
      rw [hL, List.getElem?_map, Option.map_eq_some_iff] at h3
      obtain ⟨x, _, rfl⟩ := h3
      exact LSub.free _
    · cases h4
theorem BSub.own {α : Type} {i : Inhabited α} {k : Nat} {renc : α → List RV} {xs : List α} {b : Blk} (hk : b.k = k) (hL : RowsAre renc xs b.L) : BSub H F τ n (.rows k (fun x => (renc x).map AV.r) xs) b :=
  BSub.rows (fun _ => rfl) hk hL
end

/-! ### A state told anew through a list of places -/
inductive Loc where
  | slot (i : Nat)
  | cell (i f : Nat)
  | giv (n : Nat)
def idOf : AV → Option Nat
  | .ptr id _ _ _ => some id
  | .sl id _ _ _ => some id
  | .slc id _ _ _ _ => some id
  | _ => none
def Loc.num (s : Slots) (H : Heap) : Loc → Option Nat
  | .slot i => idOf (s.getD i .any)
  | .cell i f => match s.getD i .any with
    | .ptr id _ _ _ => match H.at id with
      | some (.cells l) => idOf (l.getD f .any)
      | _ => none
    | _ => none
  | .giv n => some n
def tsOf (s : Slots) (H : Heap) (l : List Loc) : List (Option Nat) := l.map (Loc.num s H)
def lτ (ts : List (Option Nat)) (j : Nat) : Option Nat := (ts[j]?).join
def lF (ts : List (Option Nat)) (id : Nat) : Prop := ts.contains (some id) = false
def preB (p : Nat) (ts : List (Option Nat)) : Bool := (List.range p).all fun j => lτ ts j == some j
def injB : List (Option Nat) → Bool
  | [] => true
  | none :: ts => injB ts
  | some i :: ts => !(ts.contains (some i)) && injB ts
def HTell (H : Heap) (F : Nat → Prop) (τ : Nat → Option Nat) (n : Nat) : List (Option Nat) → Heap → Prop
  | [], [] => True
  | t :: ts, b2 :: H2 => (match b2 with
      | none => True
      | some b2 => match t with
        | some i => match H.at i with
          | some b => BSub H F τ n b2 b
          | none => False
        | none => b2.L = []) ∧ HTell H F τ n ts H2
  | _, _ => False

theorem lF_mk {ts : List (Option Nat)} {id : Nat} (h : ts.contains (some id) = false) : lF ts id := h
theorem injB_spec : ∀ {ts : List (Option Nat)}, injB ts = true → ∀ j j' i, lτ ts j = some i → lτ ts j' = some i → j = j'
  | [], _, j, j', i, h, _ => by simp [lτ] at h
  | t :: ts, hB, j, j', i, h, h' => by
    have hts : injB ts = true := by cases t <;> simp [injB] at hB <;> first | exact hB | exact hB.2
    have no : ∀ q, t = some i → lτ ts q = some i → False := fun q ht hq => by
      subst ht
      simp only [injB, Bool.and_eq_true, Bool.not_eq_true'] at hB
      have hm : some i ∈ ts := by
        simp only [lτ] at hq
        cases hh : ts[q]? with
        | none => rw [hh] at hq; cases hq
        | some o => rw [hh] at hq; simp at hq; subst hq; exact List.mem_of_getElem? hh
      have : ts.contains (some i) = true := by simpa using hm
      rw [this] at hB
      cases hB.1
    cases j with
    | zero =>
      cases j' with
      | zero => rfl
      | succ j' => exact (no j' (by simpa [lτ] using h) (by simpa [lτ] using h')).elim
    | succ j =>
      cases j' with
      | zero => exact (no j (by simpa [lτ] using h') (by simpa [lτ] using h)).elim
      | succ j' => rw [injB_spec hts j j' i (by simpa [lτ] using h) (by simpa [lτ] using h')]

theorem HTell.at' {H : Heap} {F : Nat → Prop} {τ : Nat → Option Nat} {n : Nat} : ∀ {ts : List (Option Nat)} {H2 : Heap}, HTell H F τ n ts H2 → ∀ j b2, Heap.at H2 j = some b2 → match lτ ts j with
    | some i => ∃ b, H.at i = some b ∧ BSub H F τ n b2 b
    | none => b2.L = []
  | [], [], _, j, b2, hj => by simp [Heap.at] at hj
  | [], _ :: _, h, j, b2, hj => by simp [HTell] at h
  | _ :: _, [], h, j, b2, hj => by simp [HTell] at h
  | t :: ts, c :: H2, h, j, b2, hj => by
    simp only [HTell] at h
    cases j with
    | zero =>
      simp only [Heap.at, List.getD_cons_zero] at hj
      subst hj
      have h1 := h.1
      cases t with
      | none => simpa [lτ] using h1
      | some i =>
        have e : lτ (some i :: ts) 0 = some i := by simp [lτ]
        rw [e]
        simp only at h1 ⊢
        cases hi : H.at i with
        | none => rw [hi] at h1; exact h1.elim
        | some b => rw [hi] at h1; exact ⟨b, rfl, h1⟩
    | succ j =>
      have := HTell.at' h.2 j b2 (by simpa [Heap.at] using hj)
      simpa [lτ] using this

theorem Ent.places {p : Nat} {s s2 : Slots} {H H2 : Heap} (locs : List Loc) (ts : List (Option Nat)) (hts : tsOf s H locs = ts) (hpre : preB p ts = true) (hinj : injB ts = true) (hp : p ≤ H2.length)
    (hH : HTell H (lF ts) (lτ ts) H2.length ts H2) (hs : LSub H (lF ts) (lτ ts) H2.length s2 s) : Ent p s H s2 H2 := by
  refine ⟨lF ts, lτ ts, ⟨hp, fun j hj => ?_, fun id hid j hj => ?_, injB_spec hinj, fun j b2 hj => hH.at' j b2 hj⟩, hs⟩
  · have := List.all_eq_true.1 hpre j (List.mem_range.2 hj)
    simpa using this
  · have hm : some id ∈ ts := by
      simp only [lτ] at hj
      cases hh : ts[j]? with
      | none => rw [hh] at hj; cases hj
      | some o => rw [hh] at hj; simp at hj; subst hj; exact List.mem_of_getElem? hh
    have : ts.contains (some id) = true := by simpa using hm
    unfold lF at hid
    rw [this] at hid
    cases hid

section
variable {H : Heap} {F : Nat → Prop} {τ : Nat → Option Nat} {n : Nat}
theorem HTell.nil' : HTell H F τ n [] [] := by simp only [HTell]
theorem HTell.some' {i : Nat} {b b2 : Blk} {ts : List (Option Nat)} {H2 : Heap} (h : H.at i = some b) (hb : BSub H F τ n b2 b) (ht : HTell H F τ n ts H2) : HTell H F τ n (some i :: ts) (some b2 :: H2) := by
  simp only [HTell]; rw [h]; exact ⟨hb, ht⟩
theorem HTell.fresh' {b2 : Blk} {ts : List (Option Nat)} {H2 : Heap} (h : b2.L = []) (ht : HTell H F τ n ts H2) : HTell H F τ n (none :: ts) (some b2 :: H2) := by
  simp only [HTell]; exact ⟨h, ht⟩
theorem HTell.gone' {t : Option Nat} {ts : List (Option Nat)} {H2 : Heap} (ht : HTell H F τ n ts H2) : HTell H F τ n (t :: ts) (none :: H2) := by
  simp only [HTell]; exact ⟨trivial, ht⟩
/-- A frame of which some slots are told. -/
def SSub (H : Heap) (F : Nat → Prop) (τ : Nat → Option Nat) (n : Nat) (s : Slots) : List (Nat × AV) → Prop
  | [] => True
  | (i, v) :: l => VSub H F τ n v (s.getD i .any) ∧ SSub H F τ n s l
theorem SSub.nil' {s : Slots} : SSub H F τ n s [] := trivial
theorem SSub.cons' {s : Slots} {i : Nat} {v : AV} {l : List (Nat × AV)} (h : VSub H F τ n v (s.getD i .any)) (ht : SSub H F τ n s l) : SSub H F τ n s ((i, v) :: l) := ⟨h, ht⟩
theorem LSub.of : ∀ {cs ds : List AV}, cs.length = ds.length → (∀ (i : Nat) (c d : AV), cs[i]? = some c → ds[i]? = some d → VSub H F τ n c d) → LSub H F τ n cs ds
  | [], [], _, _ => LSub.nil'
  | [], _ :: _, h, _ => by cases h
  | _ :: _, [], h, _ => by cases h
  | c :: cs, d :: ds, h, hv => LSub.cons' (hv 0 c d rfl rfl) (LSub.of (by simpa using h) fun i c' d' h1 h2 => hv (i + 1) c' d' (by simpa using h1) (by simpa using h2))
theorem LSub.mk {m : Nat} {l : List (Nat × AV)} {s : Slots} (hlen : s.length = m) (h : SSub H F τ n s l) : LSub H F τ n (mkS m l) s := by
  have key : ∀ (l : List (Nat × AV)) (f : Slots), f.length = s.length → (∀ (i : Nat) (c d : AV), f[i]? = some c → s[i]? = some d → VSub H F τ n c d) → SSub H F τ n s l →
      (l.foldl (fun s p => s.set p.1 p.2) f).length = s.length ∧ ∀ (i : Nat) (c d : AV), (l.foldl (fun s p => s.set p.1 p.2) f)[i]? = some c → s[i]? = some d → VSub H F τ n c d := by
    intro l
    induction l with
    | nil => intro f h1 h2 _; exact ⟨h1, h2⟩
    | cons q l ih =>
      intro f h1 h2 h3
      obtain ⟨j, v⟩ := q
      refine ih (f.set j v) (by simpa using h1) (fun i c d hc hd => ?_) h3.2
      rw [List.getElem?_set] at hc
      split at hc
      · rename_i hji
        subst hji
        split at hc
        · cases hc
          have := h3.1
          rw [List.getD_eq_getElem?_getD, hd] at this
          exact this
        · cases hc
      · exact h2 i c d hc hd
  have := key l (List.replicate m .any) (by simp [hlen]) (fun i c d hc hd => by
    have := List.eq_of_mem_replicate (List.mem_of_getElem? hc)
    subst this
    exact VSub.any') h
  exact LSub.of this.1 this.2
end

/-! ### Calls -/
def dropIds (ids : List Nat) (H : Heap) : Heap := (List.range H.length).map fun j => if ids.contains j then none else H.at j
theorem dropIds_len (ids : List Nat) (H : Heap) : (dropIds ids H).length = H.length := by simp [dropIds]
theorem dropIds_at {ids : List Nat} {H : Heap} {j : Nat} {b : Blk} (h : (dropIds ids H).at j = some b) : H.at j = some b ∧ ids.contains j = false := by
  unfold Heap.at dropIds at h
  rw [List.getD_eq_getElem?_getD, List.getElem?_map] at h
  rcases Nat.lt_or_ge j H.length with hj | hj
  · rw [List.getElem?_range hj] at h
    simp only [Option.map_some, Option.getD_some] at h
    split at h
    · cases h
    · rename_i hc; exact ⟨h, by simpa using hc⟩
  · rw [List.getElem?_eq_none (by simpa using hj)] at h
    cases h

theorem Sat.freeze {γ : Gh} {w : World} {H : Heap} (hs : Sat γ w H) (ids : List Nat) :
    ∃ γ2 : Gh, Sat γ2 w (dropIds ids H) ∧ Evo H.length γ H w γ2 (dropIds ids H) w ∧ (∀ x, γ2.R x ↔ γ.R x ∨ ∃ id b, ids.contains id = true ∧ H.at id = some b ∧ γ.ρ id = some x) ∧ γ2.n = γ.n := by
  let γ2 : Gh := { ρ := γ.ρ, m := γ.m, R := fun x => γ.R x ∨ ∃ id b, ids.contains id = true ∧ H.at id = some b ∧ γ.ρ id = some x, n := γ.n }
  refine ⟨γ2, ⟨by simp [γ2, dropIds_len, hs.n], fun id b hb => ?_, fun id id' b b' x h1 h2 h3 h4 => hs.inj id id' b b' x (dropIds_at h1).1 (dropIds_at h2).1 h3 h4, fun x hx => ?_⟩,
    ⟨fun _ _ => ⟨rfl, rfl⟩, fun x hx => Or.inl hx, fun x hx => ?_, fun x hx => ?_, rfl, rfl, rfl, Nat.le_refl _, fun _ _ _ => rfl⟩, fun x => Iff.rfl, rfl⟩
  · have h1 := hs.blk id b (dropIds_at hb).1
    show BOk γ2 w b (γ.m id) (γ.ρ id)
    unfold BOk at h1 ⊢
    cases hid : γ.ρ id with
    | none => rw [hid] at h1; exact h1
    | some x =>
      rw [hid] at h1
      obtain ⟨vs, t, h2, h3, h4⟩ := h1
      exact ⟨vs, t, h2, h3, BRel.mono (γ := γ) (γ' := γ2) (Nat.le_refl _) (fun _ _ => ⟨rfl, rfl⟩) (fun x hx => Or.inl hx) (fun _ _ => rfl) h4⟩
  · rcases hx with hx | ⟨id, b, hi, hb, hx⟩
    · refine ⟨(hs.rd x hx).1, fun ⟨id, b, h1, h2⟩ => (hs.rd x hx).2 ⟨id, b, (dropIds_at h1).1, h2⟩⟩
    · refine ⟨hs.lt hb hx, fun ⟨id', b', h1, h2⟩ => ?_⟩
      have h3 := dropIds_at h1
      have := hs.inj id id' b b' x hb h3.1 hx h2
      subst this
      rw [hi] at h3
      cases h3.2
  · rcases hx with hx | ⟨id, b, hi, hb, hx⟩
    · exact .inl hx
    · exact .inr (.inl ⟨id, b, hb, hx⟩)
  · obtain ⟨id, b, h1, h2⟩ := hx
    exact .inl ⟨id, b, (dropIds_at h1).1, h2⟩

mutual
theorem VSub.free0 {H : Heap} {F F' : Nat → Prop} {τ τ' : Nat → Option Nat} : ∀ {c d : AV}, VSub H F τ 0 c d → VSub [] F' τ' 0 c c
  | .any, _, _ => VSub.any'
  | .r _, _, _ => VSub.same
  | .agg cs, d, h => by
    cases d <;> simp only [VSub] at h ⊢
    exact LSub.free0 h
  | .tup cs, d, h => by
    cases d <;> simp only [VSub] at h ⊢
    exact LSub.free0 h
  | .fn g cs, d, h => by
    cases d <;> simp only [VSub] at h ⊢
    exact ⟨trivial, LSub.free0 h.2⟩
  | .ptr id k i f, d, h => by
    cases d <;> simp only [VSub] at h <;> exact absurd h.1 (Nat.not_lt_zero _)
  | .sl id k off len, d, h => by
    cases d <;> simp only [VSub] at h
    case sl => exact absurd h.1 (Nat.not_lt_zero _)
    case slc => exact absurd h.1 (Nat.not_lt_zero _)
    case mt => exact absurd h.1 (Nat.not_lt_zero _)
    case r x =>
      split at h
      · exact absurd h.1 (Nat.not_lt_zero _)
      · exact absurd h.1 (Nat.not_lt_zero _)
      · exact absurd h.1 (Nat.not_lt_zero _)
      · exact absurd h.1 (Nat.not_lt_zero _)
      · exact h.elim
  | .slc .., d, h => by simp only [VSub] at h
  | .mt, d, h => by simp only [VSub]
  | @AV.rp _ _ _ _ _ _ _, d, h => by simp only [VSub]; exact .inl trivial
theorem LSub.free0 {H : Heap} {F F' : Nat → Prop} {τ τ' : Nat → Option Nat} : ∀ {cs ds : List AV}, LSub H F τ 0 cs ds → LSub [] F' τ' 0 cs cs
  | [], _, _ => LSub.nil'
  | c :: cs, [], h => by simp only [LSub] at h
  | c :: cs, d :: ds, h => by
    simp only [LSub] at h
    exact LSub.cons' (VSub.free0 h.1) (LSub.free0 h.2)
end

/-- A call that is given blocks of ours to read from now on. -/
theorem CallA.gv {P : Program} {f : FuncId} {args args2 : List AV} {H : Heap} {K : AV → Heap → Prop} {V : AV} (ids : List Nat) (h : Gives P f args2 V)
    (hsub : LSub H (fun id => ids.contains id = true) (fun _ => none) 0 args2 args) (hK : K V (dropIds ids H)) : CallA P f args H K := by
  refine ⟨fun γ w us hs hl hr => ?_⟩
  obtain ⟨γ2, h1, h2, hR, hn⟩ := hs.freeze ids
  obtain ⟨g1, g2⟩ := hsub.get
  have hr0 : ∀ (i : Nat) (c : AV) (v : Value), args2[i]? = some c → us[i]? = some v → Rel γ2 w c v := fun i c v a1 a2 => by
    have hi : i < args.length := by rw [← g1]; exact (List.getElem?_eq_some_iff.1 a1).1
    have h3 := VSub.rel hs (hr i _ v (List.getElem?_eq_getElem hi) a2) (g2 i c _ a1 (List.getElem?_eq_getElem hi))
    exact h3.mono (γ' := γ2) (Nat.zero_le _) (fun id h => absurd h (Nat.not_lt_zero _)) (fun b hb => (hR b).2 hb) (fun _ _ => rfl)
  refine ((CallA.gives (K := K) h hsub.free0 hK).run γ2 w us h1 (g1.trans hl) hr0).mono ?_
  rintro e w' ⟨u, γ', v, H', rfl, hk, hlen, ev, hs', hv⟩
  rw [dropIds_len] at hlen ev
  exact ⟨u, γ', v, H', rfl, hk, hlen, h2.trans ev, hs', hv⟩

/-- A call that is lent blocks of ours and hands back no list. -/
theorem CallA.lend {P : Program} {f : FuncId} {args args2 : List AV} {H : Heap} {K : AV → Heap → Prop} {V : AV} (h : Gives P f args2 V)
    (hV : shV false H.length V = V) (hsub : LSub H (fun _ => True) (fun _ => none) 0 args2 args) (hK : K V H) : CallA P f args H K :=
  CallA.fresh (Post := fun v H' => v = V ∧ H' = []) h hsub fun v H' ⟨h1, h2⟩ => by
    subst h1 h2
    rw [hV]
    simpa [Heap.with] using hK
/-- The same, of no blocks. -/
theorem CallA.gv0 {P : Program} {f : FuncId} {args args2 : List AV} {H : Heap} {K : AV → Heap → Prop} {V : AV} (h : Gives P f args2 V)
    (hsub : LSub H (fun _ => False) (fun _ => none) 0 args2 args) (hK : K V H) : CallA P f args H K := by
  refine ⟨fun γ w us hs hl hr => ?_⟩
  obtain ⟨g1, g2⟩ := hsub.get
  have hr0 : ∀ (i : Nat) (c : AV) (v : Value), args2[i]? = some c → us[i]? = some v → Rel γ w c v := fun i c v a1 a2 => by
    have hi : i < args.length := by rw [← g1]; exact (List.getElem?_eq_some_iff.1 a1).1
    have h3 := VSub.rel hs (hr i _ v (List.getElem?_eq_getElem hi) a2) (g2 i c _ a1 (List.getElem?_eq_getElem hi))
    refine h3.mono (γ' := γ) (Nat.zero_le _) (fun id h => absurd h (Nat.not_lt_zero _)) (fun b hb => ?_) (fun _ _ => rfl)
    rcases hb with hb | ⟨_, _, hb, _⟩
    · exact hb
    · exact hb.elim
  exact (CallA.gives (K := K) h hsub.free0 hK).run γ w us hs (g1.trans hl) hr0

/-! ### Loops, ends -/
def firstRid : Code → Option Nat
  | .seq x _ => firstRid x
  | .region id _ _ => some id
  | .block _ x => firstRid x
  | _ => none
section
variable {P : Program} {p : Nat} {s : Slots} {H : Heap} {Q : Exit → Slots → Heap → Prop}
theorem Tri.loopN {c : Code} {ι : Type} (rid : Nat) (hr : firstRid c = some rid) (I : ι → Slots) (J : ι → Heap) (M : ι → Prop) (μ : ι → Nat) (j0 : ι) (h0 : Ent p s H (I j0) (J j0)) (hM : M j0)
    (round : ∀ j, M j → Tri P p c (I j) (J j) (thenQ (fun s' H' => ∃ j', M j' ∧ μ j' < μ j ∧ Ent p s' H' (I j') (J j')) Q)) : Tri P p (.loop c) s H Q :=
  Tri.loop I J M μ j0 hM h0 round
end
theorem backK {ι : Type} {I : ι → Slots} {J : ι → Heap} {M : ι → Prop} {μ : ι → Nat} {p : Nat} {s : Slots} {H : Heap} {m : Nat} (j' : ι) (hE : Ent p s H (I j') (J j')) (hM : M j') (hμ : μ j' < m) : ∃ j', M j' ∧ μ j' < m ∧ Ent p s H (I j') (J j') :=
  ⟨j', hM, hμ, hE⟩
theorem EndK.eqv {α : Type} {f : α → AV} {P : Program} {rs : List ResultVar} {s : Slots} {H : Heap} {vs : List AV} {x : α} (y : α) {e : Exit} (he : e = .normal ∨ e = .ret) (h : resAll P s H rs = some vs)
    (hv : VSub H (fun _ => True) (fun _ => none) 0 (f y) (resOne vs)) (hx : x = y) : EndK P 0 rs (fun v H' => v = f x ∧ H' = []) e s H := by
  subst hx
  exact EndK.plain h hv he
theorem wr_up {i : Nat} (h : (i : Int) < 9223372036854775807) : ((i + 1 : Nat) : Int) = wr .i64 ((i : Int) + 1) := by rw [wr_id] <;> omega

attribute [go_sem] firstRid tsOf Loc.num idOf HTell lτ lF preB injB resAll resV resOne mkS
end Go.Ae
namespace Go.Ae
theorem CallL.gv0 {P : Program} {f : FuncId} {args args2 : List AV} {K : AV → Prop} {V : AV} (h : Gives P f args2 V) (hsub : LSub [] (fun _ => False) (fun _ => none) 0 args2 args) (hK : K V) : CallL P f args K :=
  ⟨V, fun _ => CallA.gv0 h (LSub.heap hsub) ⟨rfl, rfl⟩, hK⟩
theorem wr_dn {n : Int} (h : 0 ≤ n ∧ n ≤ 9223372036854775807) : n - 1 = wr .i64 (n - 1) := by obtain ⟨h, hn⟩ := h; rw [wr_id] <;> omega
theorem HTell.freshRows {α : Type} {i : Inhabited α} {k : Nat} {enc : α → List AV} {H : Heap} {F : Nat → Prop} {τ : Nat → Option Nat} {n : Nat} {ts : List (Option Nat)} {H2 : Heap} (ht : HTell H F τ n ts H2) : HTell H F τ n (none :: ts) (some (.rows k enc []) :: H2) :=
  HTell.fresh' rfl ht
end Go.Ae
end
section
namespace Go.Ae
set_option linter.unusedVariables false
set_option linter.unusedSimpArgs false
/-- A frame of n slots as the row of what was put into it, the last one first. -/
def mkR (n : Nat) (l : List (Nat × AV)) : Slots := l.foldr (fun q s => s.set q.1 q.2) (List.replicate n .any)
theorem mkR_nil (n : Nat) : mkR n [] = List.replicate n .any := rfl
theorem mkR_len (n : Nat) (l : List (Nat × AV)) : (mkR n l).length = n := by
  induction l with
  | nil => simp [mkR]
  | cons q l ih => simpa [mkR] using ih
theorem putR {n d : Nat} {l : List (Nat × AV)} {v : AV} : putS (mkR n l) (some d) v = mkR n ((d, v) :: l) := rfl
theorem putR0 {n : Nat} {l : List (Nat × AV)} {v : AV} : putS (mkR n l) none v = mkR n l := rfl
theorem setR {n d : Nat} {l : List (Nat × AV)} {v : AV} : (mkR n l).set d v = mkR n ((d, v) :: l) := rfl
theorem getR_eq {n d : Nat} {l : List (Nat × AV)} {v : AV} (h' : d < n) : (mkR n ((d, v) :: l)).getD d .any = v := by
  have hl := mkR_len n l
  show ((mkR n l).set d v).getD d .any = v
  rw [List.getD_eq_getElem?_getD, List.getElem?_set_self (by omega)]
  rfl
theorem getR_ne {n d t : Nat} {l : List (Nat × AV)} {v : AV} (h' : ¬ d = t) : (mkR n ((d, v) :: l)).getD t .any = (mkR n l).getD t .any := by
  show ((mkR n l).set d v).getD t .any = _
  rw [List.getD_eq_getElem?_getD, List.getElem?_set_ne h', List.getD_eq_getElem?_getD]
theorem getR_nil {n t : Nat} : (mkR n []).getD t .any = .any := by
  rw [mkR_nil, List.getD_eq_getElem?_getD]
  rcases Nat.lt_or_ge t n with h | h
  · rw [List.getElem?_replicate, if_pos h]; rfl
  · rw [List.getElem?_eq_none (by simpa using h)]; rfl
/-- A frame at a function's head. -/
def argR : Nat → List AV → List (Nat × AV)
  | _, [] => []
  | i, v :: vs => (i, v) :: argR (i + 1) vs
theorem argR_eq : ∀ (pre args : List AV) (n : Nat), pre.length + args.length ≤ n → (argR pre.length args).foldr (fun q s => s.set q.1 q.2) (pre ++ List.replicate (n - pre.length) .any) = pre ++ args ++ List.replicate (n - pre.length - args.length) .any
  | pre, [], n, h => by simp [argR]
  | pre, v :: vs, n, h => by
    have key : ∀ (l : List (Nat × AV)) (s : List AV) (j : Nat) (w : AV), (∀ q ∈ l, q.1 ≠ j) → (l.foldr (fun q s => s.set q.1 q.2) s).set j w = l.foldr (fun q s => s.set q.1 q.2) (s.set j w) := by
      intro l
      induction l with
      | nil => intros; rfl
      | cons q l ih =>
        intro s j w hq
        simp only [List.foldr_cons]
        rw [← ih s j w (fun q' h' => hq q' (List.mem_cons_of_mem _ h')), List.set_comm _ _ (hq q (by simp))]
    have lo : ∀ (as : List AV) (i : Nat), ∀ q ∈ argR i as, i ≤ q.1 := by
      intro as
      induction as with
      | nil => intro i q hq; simp [argR] at hq
      | cons a as ih =>
        intro i q hq
        simp only [argR, List.mem_cons] at hq
        rcases hq with rfl | hq
        · exact Nat.le_refl _
        · have := ih (i + 1) q hq; omega
    simp only [List.length_cons] at h
    simp only [argR, List.foldr_cons]
    rw [key _ _ _ _ (fun q hq => by have := lo vs (pre.length + 1) q hq; omega)]
    have e1 : (pre ++ List.replicate (n - pre.length) AV.any).set pre.length v = (pre ++ [v]) ++ List.replicate (n - (pre ++ [v]).length) .any := by
      have : n - pre.length = (n - (pre.length + 1)) + 1 := by omega
      rw [this, List.replicate_succ, List.set_append_right _ _ (Nat.le_refl _)]
      simp
    rw [e1]
    have := argR_eq (pre ++ [v]) vs n (by simp; omega)
    simp only [List.length_append, List.length_singleton] at this
    simp only [List.length_append, List.length_singleton]
    rw [this]
    simp only [List.append_assoc, List.cons_append, List.nil_append, List.length_cons]
    have e2 : n - (pre.length + 1) - vs.length = n - pre.length - (vs.length + 1) := by omega
    rw [e2]
theorem startR {args : List AV} {m : Nat} (h : Nat.ble args.length m = true) : args ++ List.replicate (m - args.length) .any = mkR m (argR 0 args) := by
  have := argR_eq [] args m (by simpa using Nat.le_of_ble_eq_true h)
  simp only [List.length_nil, List.nil_append, Nat.sub_zero] at this
  exact this.symm
theorem Does.goR {P : Program} {f : FuncId} {fn : Func} {c : Code} {p m : Nat} {rs : Array ResultVar} {args : List AV} {H : Heap} {Post : AV → Heap → Prop} (hf : P.funcs[f]? = some fn) (hn : fn.ntmps = m) (hr : fn.results = rs) (hb : fn.body = some c)
    (hp : p ≤ H.length) (ha : Nat.ble args.length m = true) (h : Tri P p c (mkR m (argR 0 args)) H (EndK P p rs.toList Post)) : Does P f p args H Post :=
  Does.go hf hn hr hb hp (startR ha ▸ h)
theorem LSub.mkR {H : Heap} {F : Nat → Prop} {τ : Nat → Option Nat} {n m : Nat} {l : List (Nat × AV)} {s : Slots} (hlen : s.length = m) (h : SSub H F τ n s l) : LSub H F τ n (mkR m l) s := by
  have key : ∀ (l : List (Nat × AV)), SSub H F τ n s l → ∀ (i : Nat) (c d : AV), (Go.Ae.mkR m l)[i]? = some c → s[i]? = some d → VSub H F τ n c d := by
    intro l
    induction l with
    | nil =>
      intro _ i c d hc hd
      have := List.eq_of_mem_replicate (List.mem_of_getElem? (show (List.replicate m AV.any)[i]? = some c from hc))
      subst this
      exact VSub.any'
    | cons q l ih =>
      intro h i c d hc hd
      obtain ⟨j, v⟩ := q
      have hc' : ((Go.Ae.mkR m l).set j v)[i]? = some c := hc
      rw [List.getElem?_set] at hc'
      split at hc'
      · rename_i hji
        subst hji
        split at hc'
        · cases hc'
          have := h.1
          rw [List.getD_eq_getElem?_getD, hd] at this
          exact this
        · cases hc'
      · exact ih h.2 i c d hc' hd
  exact LSub.of (by rw [mkR_len, hlen]) (key l h)
theorem LSub.mkR' {H : Heap} {F : Nat → Prop} {τ : Nat → Option Nat} {n m : Nat} {l l' : List (Nat × AV)} (h : SSub H F τ n (Go.Ae.mkR m l') l) : LSub H F τ n (Go.Ae.mkR m l) (Go.Ae.mkR m l') := LSub.mkR (mkR_len _ _) h
theorem setR_same {n d : Nat} {l : List (Nat × AV)} {v : Value} (h : (mkR n l).getD d .any = .r (.lit v)) : (mkR n l).set d (.r (.lit v)) = mkR n l := set_getD h (by simp)
attribute [go_sem high] setR_same
attribute [go_sem] putR putR0 setR getR_eq getR_ne getR_nil argR
end Go.Ae
end
section
namespace Go.Ae
set_option linter.unusedVariables false
set_option linter.unusedSimpArgs false
/-! ### A quick look whether a drawn region may be taken in the text's order -/
structure QRow where
  dst : Option Tmp
  looks : List Tmp
  deps : List Nat
def qrow (ops : Array Oper) (o : Oper) : QRow := ⟨o.dst, o.looksAt ops, (o.after.toList.filter (Region.binds .any)).map (·.on)⟩
def qapart (x y : QRow) : Bool :=
  (match x.dst with
   | some d => !y.looks.contains d && y.dst != some d
   | none => true) &&
  (match y.dst with
   | some d => !x.looks.contains d
   | none => true)
def fastR : Nat → List QRow → Bool
  | _, [] => true
  | i, r :: rest => r.deps.all (fun j => Nat.blt j i) && rest.all (fun s => s.deps.contains i || qapart r s) && fastR (i + 1) rest
theorem qapart_eq (ops : Array Oper) (x y : Oper) : qapart (qrow ops x) (qrow ops y) = x.apart ops y := rfl

theorem fast_order (ops : Array Oper) : ∀ (l : List Oper) (k : Nat) (listed : Array Bool), (∀ j, l[j]? = ops[k + j]?) → (∀ j, listed[j]? = if j < ops.size then some (decide (j < k)) else none) → k + l.length = ops.size →
    fastR k (l.map (qrow ops)) = true → orderB .any ops (lexL k l.length) listed = true
  | [], k, listed, hl, hk, hn, h => by
    simp only [lexL, List.length_nil, List.range'_zero, List.map_nil, orderB]
    have : Region.ready .any ops listed = [] := by
      rcases hr : Region.ready .any ops listed with _ | ⟨j, t⟩
      · rfl
      · have hj : j ∈ Region.ready .any ops listed := by rw [hr]; simp
        obtain ⟨h1, o, ho, _⟩ := mem_ready.1 hj
        have hlt : j < ops.size := (Array.getElem?_eq_some_iff.1 ho).1
        have h2 := hk j
        rw [if_pos hlt] at h2
        rw [Array.getD_eq_getD_getElem?, h2] at h1
        simp at h1 hn
        omega
    rw [this]; rfl
  | o :: rest, k, listed, hl, hk, hn, h => by
    have e : lexL k (o :: rest).length = (k, true) :: lexL (k + 1) rest.length := by simp [lexL, List.range'_succ]
    rw [e]
    simp only [List.map_cons, fastR, Bool.and_eq_true] at h
    obtain ⟨⟨h1, h2⟩, h3⟩ := h
    have ho : ops[k]? = some o := by simpa using (hl 0).symm
    have hlt : k < ops.size := (Array.getElem?_eq_some_iff.1 ho).1
    have get : ∀ j, j < ops.size → ∀ d, listed.getD j d = decide (j < k) := fun j hj d => by
      rw [Array.getD_eq_getD_getElem?, hk j, if_pos hj]; rfl
    simp only [orderB, if_true, Bool.and_eq_true]
    refine ⟨⟨?_, ?_⟩, ?_⟩
    · have : k ∈ Region.ready .any ops listed := mem_ready.2 ⟨by rw [get k hlt]; simp, o, ho, fun x hx hb => by
        have : x.on ∈ (qrow ops o).deps := List.mem_map.2 ⟨x, List.mem_filter.2 ⟨by simpa using hx, hb⟩, rfl⟩
        have h4 := List.all_eq_true.1 h1 _ this
        have h5 : x.on < k := by simpa using h4
        rw [get _ (by omega)]
        simpa using h5⟩
      simpa using this
    · simp only [Region.free, ho, List.all_eq_true, List.mem_range]
      intro j hj
      by_cases hjk : j = k
      · simp [hjk]
      · by_cases hjl : j < k
        · rw [get j hj]; simp [hjl]
        · have hjo : rest[j - (k + 1)]? = ops[j]? := by
            have := hl (j - k)
            have e1 : j - k = (j - (k + 1)) + 1 := by omega
            rw [e1, List.getElem?_cons_succ] at this
            rw [this]
            congr 1
            omega
          have hoj : ops[j]? = some ops[j] := Array.getElem?_eq_getElem hj
          rw [hoj] at hjo
          have h4 := List.all_eq_true.1 h2 (qrow ops ops[j]) (List.mem_map.2 ⟨_, List.mem_of_getElem? hjo, rfl⟩)
          simp only [hoj, Bool.or_eq_true]
          right
          rw [Bool.or_eq_true] at h4
          rcases h4 with h4 | h4
          · left
            have h5 : k ∈ (qrow ops ops[j]).deps := by simpa using h4
            obtain ⟨x, hx, he⟩ := List.mem_map.1 h5
            obtain ⟨hx1, hx2⟩ := List.mem_filter.1 hx
            refine Array.any_eq_true'.2 ⟨x, by simpa using hx1, ?_⟩
            simp [hx2, he]
          · right; exact h4
    · refine fast_order ops rest (k + 1) _ (fun j => by have := hl (j + 1); simpa [Nat.add_assoc, Nat.add_comm 1 j] using this) (fun j => ?_) (by simp only [List.length_cons] at hn; omega) h3
      rw [Array.getElem?_setIfInBounds]
      have hsz : ops.size = listed.size := by
        rcases Nat.lt_trichotomy ops.size listed.size with hh | hh | hh
        · have := hk ops.size
          rw [if_neg (Nat.lt_irrefl _), Array.getElem?_eq_none_iff] at this
          omega
        · exact hh
        · have := hk listed.size
          rw [if_pos hh, Array.getElem?_eq_none (Nat.le_refl _)] at this
          cases this
      by_cases hjk : k = j
      · subst hjk
        rw [if_pos rfl, if_pos (by omega), if_pos hlt]
        simp
      · rw [if_neg hjk, hk j]
        by_cases hj : j < ops.size
        · rw [if_pos hj, if_pos hj]
          congr 1
          rw [decide_eq_decide]
          omega
        · rw [if_neg hj, if_neg hj]

def fastB (ops : Array Oper) : Bool := fastR 0 (ops.toList.map (qrow ops)) && ops.toList.all fun o => kindB true o.op true
theorem fastB_quiet {ops : Array Oper} (h : fastB ops = true) : quietB ops = true := by
  simp only [fastB, Bool.and_eq_true] at h
  obtain ⟨h1, h2⟩ := h
  simp only [quietB, drawB, Bool.and_eq_true]
  refine ⟨⟨?_, ?_⟩, ?_⟩
  · refine fast_order ops ops.toList 0 _ (fun j => by simp) (fun j => ?_) (by simp) h1
    rw [Array.getElem?_replicate]
    simp
  · simp [lexL]
  · rw [List.all_eq_true] at h2 ⊢
    intro p hp
    simp only [lexL, List.mem_map, List.mem_range'_1] at hp
    obtain ⟨i, hi, rfl⟩ := hp
    have hlt : i < ops.size := by simpa using hi.2
    simp only [Array.getElem?_eq_getElem hlt]
    exact h2 _ (by simp)
theorem Tri.fastSeq {P : Program} {p : Nat} {s : Slots} {H : Heap} {Q : Exit → Slots → Heap → Prop} {id : Nat} {ops : Array Oper} {y : Code} (hm : P.follows .mixedOrders = true) (hB : fastB ops = true)
    (h : ∀ K : Slots → Heap → Prop, (∀ s' H', Tri P p y s' H' Q → K s' H') → quietK P ops.toList ops.toList s H K) : Tri P p (.seq (.region id ops true) y) s H Q := Tri.quietSeq hm (fastB_quiet hB) h
theorem Tri.fast {P : Program} {p : Nat} {s : Slots} {H : Heap} {Q : Exit → Slots → Heap → Prop} {id : Nat} {ops : Array Oper} (hm : P.follows .mixedOrders = true) (hB : fastB ops = true)
    (h : ∀ K : Slots → Heap → Prop, (∀ s' H', Q .normal s' H' → K s' H') → quietK P ops.toList ops.toList s H K) : Tri P p (.region id ops true) s H Q := Tri.quiet hm (fastB_quiet hB) h
end Go.Ae
end
