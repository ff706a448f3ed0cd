/- The abstract logic over the kit's calls, first part: what values and blocks are in a world, and single operations. No condition beyond what each lemma states. -/
import Derived.Calls
import Derived.Orders
import Derived.Deep.Quiet
import Derived.Laws.Cells
import Derived.Laws.CopyRow
import Derived.Laws.World
import Derived.Laws.Append
set_option linter.unusedVariables false
set_option linter.unusedSimpArgs false
section
namespace Go.Ae

/-- What is read and never written: a value without addresses, or a slice that reads as a list. -/
inductive RV : Type 1 where
  | lit (v : Value)
  | rd {α : Type} [Inhabited α] (k : Nat) (enc : α → List RV) (xs : List α)

/-- Abstract values. -/
inductive AV : Type 1 where
  | any
  | r (x : RV)
  | agg (cs : List AV)
  | tup (vs : List AV)
  | fn (g : FuncId) (caps : List AV)
  | ptr (id k i f : Nat)
  | sl (id k off len : Nat)
  | slc (id k off len cap : Nat)
  | mt
  | rp {α : Type} [Inhabited α] (k : Nat) (enc : α → List RV) (xs : List α) (i f : Nat)

abbrev AV.lit (v : Value) : AV := .r (.lit v)

inductive Blk : Type 1 where
  | cells (l : List AV)
  | rows {α : Type} [Inhabited α] (k : Nat) (enc : α → List AV) (xs : List α)
  | raw (k : Nat) (l : List (List AV))

abbrev Heap := List (Option Blk)
abbrev Slots := List AV

def Heap.at (H : Heap) (id : Nat) : Option Blk := H.getD id none

/-- What a readable value is in a world: the blocks that it leads to are among R. -/
inductive RRel (R : Nat → Prop) (w : World) : RV → Value → Prop
  | lit (v : Value) : RRel R w (.lit v) v
  | rd0 {α : Type} [Inhabited α] (k : Nat) (enc : α → List RV) (A : Option Addr) (c : Nat) : RRel R w (.rd k enc []) (.slice A 0 c)
  | rd {α : Type} [Inhabited α] (k : Nat) (enc : α → List RV) (xs : List α) (b o c : Nat) (u : Nat → Nat → Value)
      (hR : R b) (hc : xs.length ≤ c) (hlen : ∀ (i : Nat) (x : α), xs[i]? = some x → (enc x).length = k)
      (hcell : ∀ (i : Nat) (x : α) (f : Nat) (v : RV), xs[i]? = some x → (enc x)[f]? = some v → w.cell? ⟨b, o + i * k + f, none⟩ = some (u i f))
      (hrel : ∀ (i : Nat) (x : α) (f : Nat) (v : RV), xs[i]? = some x → (enc x)[f]? = some v → RRel R w v (u i f)) :
      RRel R w (.rd k enc xs) (.slice (some ⟨b, o, none⟩) xs.length c)

theorem RRel.mono {R R' : Nat → Prop} {w w' : World} (hR : ∀ b, R b → R' b) (hk : ∀ b, R b → w'.heap[b]? = w.heap[b]?) {v : RV} {u : Value}
    (h : RRel R w v u) : RRel R' w' v u := by
  induction h with
  | lit v => exact .lit v
  | rd0 k enc A c => exact .rd0 k enc A c
  | rd k enc xs b o c u hb hc hlen hcell hrel ih =>
    refine .rd k enc xs b o c u (hR b hb) hc hlen (fun i x f v h1 h2 => ?_) (fun i x f v h1 h2 => ih i x f v h1 h2)
    rw [← hcell i x f v h1 h2]
    simp only [World.cell?, hk b hb]

/-- How the abstract blocks lie in a world: ρ: which block (none: a slice without one), R: the blocks that are read and never written, m: how many cells that block has, n: how many numbers are given away. -/
structure Gh where
  ρ : Nat → Option Nat
  m : Nat → Nat
  R : Nat → Prop
  n : Nat

def Gh.L (γ : Gh) (H : Heap) (x : Nat) : Prop := ∃ id b, H.at id = some b ∧ γ.ρ id = some x

inductive Rel (γ : Gh) (w : World) : AV → Value → Prop
  | any (v : Value) : Rel γ w .any v
  | r {x : RV} {v : Value} : RRel γ.R w x v → Rel γ w (.r x) v
  | agg (cs : List AV) (vs : Array Value) : cs.length = vs.size → (∀ (i : Nat) (c : AV) (v : Value), cs[i]? = some c → vs[i]? = some v → Rel γ w c v) → Rel γ w (.agg cs) (.agg vs)
  | tup (cs : List AV) (vs : Array Value) : cs.length = vs.size → (∀ (i : Nat) (c : AV) (v : Value), cs[i]? = some c → vs[i]? = some v → Rel γ w c v) → Rel γ w (.tup cs) (.tuple vs)
  | fn (g : FuncId) (cs : List AV) (vs : Array Value) : cs.length = vs.size → (∀ (i : Nat) (c : AV) (v : Value), cs[i]? = some c → vs[i]? = some v → Rel γ w c v) →
      Rel γ w (.fn g cs) (.func (.func g) #[] vs)
  | ptr (id k i f x : Nat) : id < γ.n → γ.ρ id = some x → Rel γ w (.ptr id k i f) (.pointer (some ⟨x, i * k + f, none⟩))
  | sl (id k off len x c : Nat) : id < γ.n → γ.ρ id = some x → len ≤ c → off * k + c * k ≤ γ.m id → Rel γ w (.sl id k off len) (.slice (some ⟨x, off * k, none⟩) len c)
  | slc (id k off len x c : Nat) : id < γ.n → γ.ρ id = some x → len ≤ c → off * k + c * k ≤ γ.m id → Rel γ w (.slc id k off len c) (.slice (some ⟨x, off * k, none⟩) len c)
  | slz (id k off : Nat) (A : Option Addr) : id < γ.n → Rel γ w (.sl id k off 0) (.slice A 0 0)
  | mt (A : Option Addr) : Rel γ w .mt (.slice A 0 0)
  | rp {α : Type} [Inhabited α] (k : Nat) (enc : α → List RV) (xs : List α) (i f b o : Nat) (u : Nat → Nat → Value)
      (hR : γ.R b) (hlen : ∀ (i : Nat) (x : α), xs[i]? = some x → (enc x).length = k)
      (hcell : ∀ (i : Nat) (x : α) (f : Nat) (v : RV), xs[i]? = some x → (enc x)[f]? = some v → w.cell? ⟨b, o + i * k + f, none⟩ = some (u i f))
      (hrel : ∀ (i : Nat) (x : α) (f : Nat) (v : RV), xs[i]? = some x → (enc x)[f]? = some v → RRel γ.R w v (u i f)) :
      Rel γ w (.rp k enc xs i f) (.pointer (some ⟨b, o + i * k + f, none⟩))

theorem Rel.mono {γ γ' : Gh} {w w' : World} (hn : γ.n ≤ γ'.n) (hρ : ∀ id, id < γ.n → γ'.ρ id = γ.ρ id ∧ γ'.m id = γ.m id) (hR : ∀ b, γ.R b → γ'.R b)
    (hk : ∀ b, γ.R b → w'.heap[b]? = w.heap[b]?) {v : AV} {u : Value} (h : Rel γ w v u) : Rel γ' w' v u := by
  induction h with
  | any v => exact .any v
  | r h => exact .r (h.mono hR hk)
  | agg cs vs hl _ ih => exact .agg cs vs hl ih
  | tup cs vs hl _ ih => exact .tup cs vs hl ih
  | fn g cs vs hl _ ih => exact .fn g cs vs hl ih
  | ptr id k i f x h1 h => exact .ptr id k i f x (Nat.lt_of_lt_of_le h1 hn) (by rw [(hρ id h1).1]; exact h)
  | sl id k off len x c h1 h hl hm => exact .sl id k off len x c (Nat.lt_of_lt_of_le h1 hn) (by rw [(hρ id h1).1]; exact h) hl (by rw [(hρ id h1).2]; exact hm)
  | slc id k off len x c h1 h hl hm => exact .slc id k off len x c (Nat.lt_of_lt_of_le h1 hn) (by rw [(hρ id h1).1]; exact h) hl (by rw [(hρ id h1).2]; exact hm)
  | slz id k off A h1 => exact .slz id k off A (Nat.lt_of_lt_of_le h1 hn)
  | mt A => exact .mt A
  | rp k enc xs i f b o u hb hlen hcell hrel =>
    refine .rp k enc xs i f b o u (hR b hb) hlen (fun i x f v h1 h2 => ?_) (fun i x f v h1 h2 => (hrel i x f v h1 h2).mono hR hk)
    rw [← hcell i x f v h1 h2]
    simp only [World.cell?, hk b hb]

/-- A block's rows. -/
def Blk.k : Blk → Nat
  | .cells l => l.length
  | @Blk.rows _ _ k _ _ => k
  | .raw k _ => k
def Blk.L : Blk → List (List AV)
  | .cells l => [l]
  | @Blk.rows _ _ _ enc xs => xs.map enc
  | .raw _ l => l

/-- The cells of a block as they are told. -/
structure BRel (γ : Gh) (w : World) (b : Blk) (vs : Array Value) : Prop where
  len : ∀ (i : Nat) (row : List AV), b.L[i]? = some row → row.length = b.k
  sz : b.L.length * b.k ≤ vs.size
  rel : ∀ (i : Nat) (row : List AV) (f : Nat) (v : AV) (u : Value), b.L[i]? = some row → row[f]? = some v → vs[i * b.k + f]? = some u → Rel γ w v u

/-- Live block number id. -/
def BOk (γ : Gh) (w : World) (b : Blk) (m : Nat) : Option Nat → Prop
  | none => b.L = []
  | some x => ∃ vs t, w.heap[x]? = some (.cells vs t (0, 0)) ∧ vs.size = m ∧ BRel γ w b vs

structure Sat (γ : Gh) (w : World) (H : Heap) : Prop where
  n : γ.n = H.length
  blk : ∀ id b, H.at id = some b → BOk γ w b (γ.m id) (γ.ρ id)
  inj : ∀ id id' b b' x, H.at id = some b → H.at id' = some b' → γ.ρ id = some x → γ.ρ id' = some x → id = id'
  rd : ∀ x, γ.R x → x < w.heap.size ∧ ¬ γ.L H x

/-- From one state of things to a later one: the first p numbers stand; what is neither live nor new has not turned. -/
structure Evo (p : Nat) (γ : Gh) (H : Heap) (w : World) (γ' : Gh) (H' : Heap) (w' : World) : Prop where
  ρ : ∀ id, id < p → γ'.ρ id = γ.ρ id ∧ γ'.m id = γ.m id
  R : ∀ x, γ.R x → γ'.R x
  R' : ∀ x, γ'.R x → γ.R x ∨ γ.L H x ∨ w.heap.size ≤ x
  L : ∀ x, γ'.L H' x → γ.L H x ∨ w.heap.size ≤ x
  os : w'.os = w.os
  tape : w'.tape = w.tape
  output : w'.output = w.output
  size : w.heap.size ≤ w'.heap.size
  keep : ∀ x, x < w.heap.size → ¬ γ.L H x → w'.heap[x]? = w.heap[x]?

theorem Evo.refl (p : Nat) (γ : Gh) (H : Heap) (w : World) : Evo p γ H w γ H w :=
  ⟨fun _ _ => ⟨rfl, rfl⟩, fun _ h => h, fun _ h => .inl h, fun _ h => .inl h, rfl, rfl, rfl, Nat.le_refl _, fun _ _ _ => rfl⟩

theorem Evo.trans {p : Nat} {γ γ₁ γ₂ : Gh} {H H₁ H₂ : Heap} {w w₁ w₂ : World} (h : Evo p γ H w γ₁ H₁ w₁) (k : Evo p γ₁ H₁ w₁ γ₂ H₂ w₂) : Evo p γ H w γ₂ H₂ w₂ where
  ρ := fun id hi => ⟨(k.ρ id hi).1.trans (h.ρ id hi).1, (k.ρ id hi).2.trans (h.ρ id hi).2⟩
  R := fun x hx => k.R x (h.R x hx)
  R' := fun x hx => by
    rcases k.R' x hx with a | a | a
    · exact h.R' x a
    · rcases h.L x a with b | b
      · exact .inr (.inl b)
      · exact .inr (.inr b)
    · exact .inr (.inr (Nat.le_trans h.size a))
  L := fun x hx => by
    rcases k.L x hx with a | a
    · exact h.L x a
    · exact .inr (Nat.le_trans h.size a)
  os := k.os.trans h.os
  tape := k.tape.trans h.tape
  output := k.output.trans h.output
  size := Nat.le_trans h.size k.size
  keep := fun x hx hl => by
    refine (k.keep x (Nat.lt_of_lt_of_le hx h.size) fun hl' => ?_).trans (h.keep x hx hl)
    rcases h.L x hl' with a | a
    · exact hl a
    · omega

/-- A frame's slots. -/
structure SRel (γ : Gh) (w : World) (s : Slots) (a : Act) : Prop where
  d : a.defers = []
  n : a.tmps.size = s.length
  r : ∀ (i : Nat) (v : AV) (u : Value), s[i]? = some v → a.tmps[i]? = some u → Rel γ w v u

/-- Code, from an abstract state. -/
def Tri0 (P : Program) (p : Nat) (c : Code) (s : Slots) (H : Heap) (Q : Exit → Slots → Heap → Prop) : Prop :=
  ∀ γ a w, p ≤ H.length → Sat γ w H → SRel γ w s a →
    c.wp P (fun e a' w' => ∃ γ' s' H', Q e s' H' ∧ p ≤ H'.length ∧ Evo p γ H w γ' H' w' ∧ Sat γ' w' H' ∧ SRel γ' w' s' a') a w

theorem Tri0.mono {P : Program} {p : Nat} {c : Code} {s : Slots} {H : Heap} {Q Q' : Exit → Slots → Heap → Prop} (h : Tri0 P p c s H Q) (hq : ∀ e s H, Q e s H → Q' e s H) : Tri0 P p c s H Q' :=
  fun γ a w hp hs hr => wp_mono (h γ a w hp hs hr) fun _ _ _ ⟨γ', s', H', q, rest⟩ => ⟨γ', s', H', hq _ _ _ q, rest⟩

theorem Tri0.skip {P : Program} {p : Nat} {s : Slots} {H : Heap} {Q : Exit → Slots → Heap → Prop} (h : Q .normal s H) : Tri0 P p .skip s H Q :=
  fun γ _ _ hp hs hr => wp_skip ⟨γ, s, H, h, hp, .refl _ _ _ _, hs, hr⟩
theorem Tri0.ret {P : Program} {p : Nat} {s : Slots} {H : Heap} {Q : Exit → Slots → Heap → Prop} (h : Q .ret s H) : Tri0 P p .ret s H Q :=
  fun γ _ _ hp hs hr => wp_ret ⟨γ, s, H, h, hp, .refl _ _ _ _, hs, hr⟩
theorem Tri0.exit {P : Program} {p : Nat} {id : Nat} {s : Slots} {H : Heap} {Q : Exit → Slots → Heap → Prop} (h : Q (.exit id) s H) : Tri0 P p (.exit id) s H Q :=
  fun γ _ _ hp hs hr => wp_exit ⟨γ, s, H, h, hp, .refl _ _ _ _, hs, hr⟩

def thenQ (next : Slots → Heap → Prop) (Q : Exit → Slots → Heap → Prop) : Exit → Slots → Heap → Prop
  | .normal, s, H => next s H
  | e, s, H => Q e s H

theorem Tri0.seq {P : Program} {p : Nat} {x y : Code} {s : Slots} {H : Heap} {Q : Exit → Slots → Heap → Prop} (h : Tri0 P p x s H (thenQ (fun s' H' => Tri0 P p y s' H' Q) Q)) : Tri0 P p (.seq x y) s H Q := by
  intro γ a w hp hs hr
  refine wp_seq (wp_mono (h γ a w hp hs hr) ?_)
  rintro e a' w' ⟨γ', s', H', q, hp', ev, hs', hr'⟩
  cases e with
  | normal =>
    refine wp_mono (q γ' a' w' hp' hs' hr') ?_
    rintro e a'' w'' ⟨γ'', s'', H'', q', hp'', ev', hs'', hr''⟩
    exact ⟨γ'', s'', H'', q', hp'', ev.trans ev', hs'', hr''⟩
  | exit id => exact ⟨γ', s', H', q, hp', ev, hs', hr'⟩
  | goto l => exact ⟨γ', s', H', q, hp', ev, hs', hr'⟩
  | ret => exact ⟨γ', s', H', q, hp', ev, hs', hr'⟩
  | panic ch => exact ⟨γ', s', H', q, hp', ev, hs', hr'⟩
  | outgrown => exact ⟨γ', s', H', q, hp', ev, hs', hr'⟩

def blockQ (id : Nat) (Q : Exit → Slots → Heap → Prop) : Exit → Slots → Heap → Prop
  | .exit id', s, H => if id' = id then Q .normal s H else Q (.exit id') s H
  | e, s, H => Q e s H

theorem Tri0.block {P : Program} {p : Nat} {id : Nat} {c : Code} {s : Slots} {H : Heap} {Q : Exit → Slots → Heap → Prop} (h : Tri0 P p c s H (blockQ id Q)) : Tri0 P p (.block id c) s H Q := by
  intro γ a w hp hs hr
  refine wp_block (wp_mono (h γ a w hp hs hr) ?_)
  rintro e a' w' ⟨γ', s', H', q, hp', ev, hs', hr'⟩
  cases e with
  | exit id' =>
    simp only [blockQ] at q
    simp only [Exit.inBlock]
    split
    · rename_i hi; rw [if_pos hi] at q; exact ⟨γ', s', H', q, hp', ev, hs', hr'⟩
    · rename_i hi; rw [if_neg hi] at q; exact ⟨γ', s', H', q, hp', ev, hs', hr'⟩
  | normal => exact ⟨γ', s', H', q, hp', ev, hs', hr'⟩
  | goto l => exact ⟨γ', s', H', q, hp', ev, hs', hr'⟩
  | ret => exact ⟨γ', s', H', q, hp', ev, hs', hr'⟩
  | panic ch => exact ⟨γ', s', H', q, hp', ev, hs', hr'⟩
  | outgrown => exact ⟨γ', s', H', q, hp', ev, hs', hr'⟩

/-- What an operand is. -/
def lift : Value → AV
  | .agg cs => .agg (cs.toList.map fun v => .lit v)
  | v => .lit v
def ev (s : Slots) : Operand → AV
  | .tmp t => s.getD t .any
  | .const v => lift v
  | .func f => .fn f []
  | .global _ => .any

theorem lift_rel (γ : Gh) (w : World) (v : Value) : Rel γ w (lift v) v := by
  cases v with
  | agg cs =>
    refine .agg _ _ (by simp) fun i c v h1 h2 => ?_
    simp only [List.getElem?_map, Option.map_eq_some_iff] at h1
    obtain ⟨a, ha, rfl⟩ := h1
    have : a = v := by
      rw [Array.getElem?_toList] at ha
      rw [ha] at h2
      exact Option.some.inj h2
    subst this
    exact .r (.lit _)
  | _ => exact .r (.lit _)

theorem ev_rel {γ : Gh} {w : World} {s : Slots} {a : Act} (h : SRel γ w s a) (x : Operand) : Rel γ w (ev s x) (a.eval x) := by
  cases x with
  | tmp t =>
    simp only [ev, Act.eval]
    rw [List.getD_eq_getElem?_getD, Array.getD_eq_getD_getElem?]
    rcases Nat.lt_or_ge t s.length with h1 | h1
    · have h2 : t < a.tmps.size := by rw [h.n]; exact h1
      rw [List.getElem?_eq_getElem h1, Array.getElem?_eq_getElem h2]
      exact h.r t _ _ (List.getElem?_eq_getElem h1) (Array.getElem?_eq_getElem h2)
    · rw [List.getElem?_eq_none h1]
      exact .any _
  | const v => exact lift_rel γ w v
  | global g => exact .any _
  | func f => exact .fn _ _ _ rfl (by simp)

theorem Rel.lit_inv {γ : Gh} {w : World} {v u : Value} (h : Rel γ w (.r (.lit v)) u) : u = v := by
  cases h with
  | r h => cases h; rfl

theorem Tri0.cond {P : Program} {p : Nat} {c : Operand} {x y : Code} {s : Slots} {H : Heap} {Q : Exit → Slots → Heap → Prop} {b : Bool} (hc : ev s c = .lit (.bool b))
    (ht : b = true → Tri0 P p x s H Q) (hf : b = false → Tri0 P p y s H Q) : Tri0 P p (.cond c x y) s H Q := by
  intro γ a w hp hs hr
  have h := ev_rel hr c
  rw [hc] at h
  exact wp_cond_split (t := b) h.lit_inv (fun h => ht h γ a w hp hs hr) (fun h => hf h γ a w hp hs hr)
end Go.Ae
end
section
namespace Go.Ae
set_option linter.unusedVariables false
set_option linter.unusedSimpArgs false

theorem Rel.slc_sl {γ : Gh} {w : World} {id k off len c : Nat} {u : Value} (h : Rel γ w (.slc id k off len c) u) : Rel γ w (.sl id k off len) u := by
  cases h with
  | slc _ _ _ _ x _ h1 h2 h3 h4 => exact .sl _ _ _ _ x c h1 h2 h3 h4

/-- A slice of our own, its room known or not. -/
def slAs (v : AV) (id k off len : Nat) : Prop := v = .sl id k off len ∨ ∃ c, v = .slc id k off len c

theorem slAs.rel {γ : Gh} {w : World} {v : AV} {id k off len : Nat} {u : Value} (h : slAs v id k off len) (hr : Rel γ w v u) : Rel γ w (.sl id k off len) u := by
  rcases h with rfl | ⟨c, rfl⟩
  · exact hr
  · exact hr.slc_sl

structure TyInfo where
  size : Nat
  bytes : Nat
  agg : Bool
  zero : List Value
  elem : Option TypeId
  offs : List (Option (Nat × Nat))
  str : Bool
  int : Option IntKind

def mkTy (P : Program) (i : TypeInfo) (d : TypeDesc) (z : Value) : TyInfo where
  size := i.size
  bytes := i.bytes
  agg := match d with | .struct _ | .array _ _ => true | _ => false
  zero := z.cells.toList
  elem := match d with | .slice e => some e | _ => none
  offs := match d with
    | .struct fs => fs.toList.map fun f => match P.info? f.type with
      | some j => if j.size = 0 then none else some (f.offset, j.size)
      | none => none
    | _ => []
  str := match d with | .string => true | _ => false
  int := match d with | .int k => some k | _ => none

def tyOf (P : Program) (t : TypeId) : Option TyInfo :=
  match P.info? t, P.underlying t with
  | some i, some d => i.zero.map (mkTy P i d)
  | _, _ => none

theorem tyOf_spec {P : Program} {t : TypeId} {y : TyInfo} (h : tyOf P t = some y) :
    ∃ i d z, P.info? t = some i ∧ P.underlying t = some d ∧ i.zero = some z ∧ y = mkTy P i d z := by
  unfold tyOf at h
  split at h
  · rename_i i d h1 h2
    rw [Option.map_eq_some_iff] at h
    obtain ⟨z, hz, rfl⟩ := h
    exact ⟨i, d, z, h1, h2, hz, rfl⟩
  · cases h

section
variable {P : Program} {t : TypeId} {y : TyInfo} (h : tyOf P t = some y) (w : World)
include h
theorem run_sizeOf' : (sizeOf t).run P w = .ok y.size w := by
  obtain ⟨i, d, z, h1, h2, h3, rfl⟩ := tyOf_spec h
  simp [sizeOf, typeInfo, h1, mkTy]
theorem run_bytes' : ∃ i, (typeInfo t).run P w = .ok i w ∧ i.bytes = y.bytes ∧ i.size = y.size := by
  obtain ⟨i, d, z, h1, h2, h3, rfl⟩ := tyOf_spec h
  exact ⟨i, by simp [typeInfo, h1], rfl, rfl⟩
theorem run_isAgg' : (isAgg t).run P w = .ok y.agg w := by
  obtain ⟨i, d, z, h1, h2, h3, rfl⟩ := tyOf_spec h
  simp only [isAgg, underlying, Sem.run_bind, run_program, Result.andThen_ok, h2, Sem.run_pure, mkTy]
  cases d <;> rfl
theorem run_zero' : ∃ z : Value, (zeroValue t).run P w = .ok z w ∧ z.cells.toList = y.zero := by
  obtain ⟨i, d, z, h1, h2, h3, rfl⟩ := tyOf_spec h
  exact ⟨z, by simp [zeroValue, typeInfo, h1, h3], rfl⟩
theorem run_underlying' : ∃ d, (underlying t).run P w = .ok d w ∧ P.underlying t = some d := by
  obtain ⟨i, d, z, h1, h2, h3, rfl⟩ := tyOf_spec h
  exact ⟨d, by simp [underlying, h2], h2⟩
theorem run_slice' {e : TypeId} (he : y.elem = some e) : (underlying t).run P w = .ok (.slice e) w := by
  obtain ⟨i, d, z, h1, h2, h3, rfl⟩ := tyOf_spec h
  have : d = .slice e := by
    simp only [mkTy] at he
    cases d <;> simp at he
    rw [he]
  subst this
  simp [underlying, h2]
theorem run_str' (he : y.str = true) : (underlying t).run P w = .ok .string w := by
  obtain ⟨i, d, z, h1, h2, h3, rfl⟩ := tyOf_spec h
  have : d = .string := by
    simp only [mkTy] at he
    cases d <;> simp at he
    rfl
  subst this
  simp [underlying, h2]
theorem run_field' {f off sz : Nat} (he : y.offs[f]? = some (some (off, sz))) : ∃ fs fd, (underlying t).run P w = .ok (.struct fs) w ∧ fs[f]? = some fd ∧ fd.offset = off ∧
    (∀ w, (sizeOf fd.type).run P w = .ok sz w) ∧ sz ≠ 0 := by
  obtain ⟨i, d, z, h1, h2, h3, rfl⟩ := tyOf_spec h
  simp only [mkTy] at he
  cases d <;> simp only [List.getElem?_nil, reduceCtorEq] at he
  rename_i fs
  rw [List.getElem?_map, Option.map_eq_some_iff] at he
  obtain ⟨fd, hfd, he⟩ := he
  rw [Array.getElem?_toList] at hfd
  cases hi : P.info? fd.type with
  | none => rw [hi] at he; simp at he
  | some j =>
    rw [hi] at he
    simp only at he
    split at he
    · cases he
    · rename_i hz
      simp only [Option.some.injEq, Prod.mk.injEq] at he
      exact ⟨fs, fd, by simp [underlying, h2], hfd, he.1, fun w => by simp [sizeOf, typeInfo, hi, he.2], by rw [← he.2]; exact hz⟩
end

/-- One operation, from an abstract state. -/
def OpA (P : Program) (o : Oper) (s : Slots) (H : Heap) (K : AV → Heap → Prop) : Prop :=
  ∀ γ a w, Sat γ w H → SRel γ w s a → ∀ next Q,
    (∀ γ' u v H' w', K v H' → H.length ≤ H'.length → Evo H.length γ H w γ' H' w' → Sat γ' w' H' → Rel γ' w' v u → next (a.put o.dst u) w') →
    o.wp P a w next Q

theorem OpA.mono {P : Program} {o : Oper} {s : Slots} {H : Heap} {K K' : AV → Heap → Prop} (h : OpA P o s H K) (hk : ∀ v H', K v H' → K' v H') : OpA P o s H K' :=
  fun γ a w hs hr next Q hn => h γ a w hs hr next Q fun γ' u v H' w' k => hn γ' u v H' w' (hk _ _ k)

/-- An operation that only reckons. -/
theorem OpA.plain {P : Program} {o : Oper} {s : Slots} {H : Heap} {K : AV → Heap → Prop} {v : AV}
    (hop : ∀ γ a w, Sat γ w H → SRel γ w s a → ∃ u, (execOp a.eval o).run P w = .ok (.value u) w ∧ Rel γ w v u) (hK : K v H) : OpA P o s H K := by
  intro γ a w hs hr next Q hn
  obtain ⟨u, h1, h2⟩ := hop γ a w hs hr
  unfold Oper.wp
  rw [h1]
  exact hn γ u v H w hK (Nat.le_refl _) (.refl _ _ _ _) hs h2

theorem OpA.move {P : Program} {o : Oper} {s : Slots} {H : Heap} {K : AV → Heap → Prop} {x : Operand} (ho : o.op = .move x ∨ o.op = .assign x) (hK : K (ev s x) H) : OpA P o s H K :=
  OpA.plain (v := ev s x) (fun γ a w hs hr => ⟨a.eval x, by rcases ho with h | h <;> simp [execOp, h], ev_rel hr x⟩) hK

/-- What 'c ? a : b' is. -/
def pickV (t : Bool) : AV → AV → AV
  | .r (.lit (.bool x)), .r (.lit (.bool y)) => .lit (.bool (bif t then x else y))
  | a, b => bif t then a else b

theorem pickV_rel {γ : Gh} {w : World} {t : Bool} {a b : AV} {u v : Value} (ha : Rel γ w a u) (hb : Rel γ w b v) : Rel γ w (pickV t a b) (if t then u else v) := by
  unfold pickV
  split
  · have h1 := ha.lit_inv
    have h2 := hb.lit_inv
    subst h1 h2
    cases t <;> exact .r (.lit _)
  · cases t
    · exact hb
    · exact ha

theorem OpA.pick {P : Program} {o : Oper} {s : Slots} {H : Heap} {K : AV → Heap → Prop} {c x y : Operand} {t : Bool} (ho : o.op = .pick c x y) (hc : ev s c = .lit (.bool t))
    (hK : K (pickV t (ev s x) (ev s y)) H) : OpA P o s H K :=
  OpA.plain (fun γ a w hs hr => by
    have h := ev_rel hr c
    rw [hc] at h
    have h := h.lit_inv
    refine ⟨if t then a.eval x else a.eval y, ?_, pickV_rel (ev_rel hr x) (ev_rel hr y)⟩
    simp [execOp, ho, h, asBool]) hK

/-! ### New blocks -/
theorem at_lt {H : Heap} {id : Nat} {b : Blk} (h : H.at id = some b) : id < H.length := by
  unfold Heap.at at h
  rcases Nat.lt_or_ge id H.length with h1 | h1
  · exact h1
  · rw [List.getD_eq_getElem?_getD, List.getElem?_eq_none h1] at h
    cases h
theorem at_push_old {H : Heap} {id : Nat} (b : Option Blk) (h : id < H.length) : Heap.at (H ++ [b]) id = H.at id := by
  unfold Heap.at
  rw [List.getD_eq_getElem?_getD, List.getD_eq_getElem?_getD, List.getElem?_append_left h]
theorem at_push_new (H : Heap) (b : Option Blk) : Heap.at (H ++ [b]) H.length = b := by
  unfold Heap.at
  simp [List.getD_eq_getElem?_getD]

theorem at_push {H : Heap} {b : Blk} {id : Nat} {c : Blk} (h : Heap.at (H ++ [some b]) id = some c) : (id < H.length ∧ H.at id = some c) ∨ (id = H.length ∧ c = b) := by
  rcases Nat.lt_or_ge id H.length with h1 | h1
  · rw [at_push_old _ h1] at h
    exact .inl ⟨h1, h⟩
  · have h2 := at_lt h
    rw [List.length_append, List.length_singleton] at h2
    have : id = H.length := by omega
    subst this
    rw [at_push_new] at h
    exact .inr ⟨rfl, (Option.some.inj h).symm⟩

theorem Sat.lt {γ : Gh} {w : World} {H : Heap} (h : Sat γ w H) {id x : Nat} {b : Blk} (hb : H.at id = some b) (hx : γ.ρ id = some x) : x < w.heap.size := by
  have := h.blk id b hb
  rw [hx] at this
  obtain ⟨vs, t, h1, _, _⟩ := this
  exact (Array.getElem?_eq_some_iff.1 h1).1

theorem Sat.L_lt {γ : Gh} {w : World} {H : Heap} (h : Sat γ w H) {x : Nat} (hx : γ.L H x) : x < w.heap.size := by
  obtain ⟨id, b, h1, h2⟩ := hx
  exact h.lt h1 h2

/-- All that is told stays told where the blocks that it leads to stay. -/
theorem BRel.mono {γ γ' : Gh} {w w' : World} (hn : γ.n ≤ γ'.n) (hρ : ∀ id, id < γ.n → γ'.ρ id = γ.ρ id ∧ γ'.m id = γ.m id) (hR : ∀ b, γ.R b → γ'.R b)
    (hk : ∀ b, γ.R b → w'.heap[b]? = w.heap[b]?) {b : Blk} {vs : Array Value} (h : BRel γ w b vs) : BRel γ' w' b vs :=
  ⟨h.len, h.sz, fun i row f v u h1 h2 h3 => (h.rel i row f v u h1 h2 h3).mono hn hρ hR hk⟩

theorem BRel.cells {γ : Gh} {w : World} {l : List AV} {vs : Array Value} (hl : l.length = vs.size) (h : ∀ (f : Nat) (v : AV) (u : Value), l[f]? = some v → vs[f]? = some u → Rel γ w v u) : BRel γ w (.cells l) vs := by
  refine ⟨fun i row h1 => ?_, by simp [Blk.L, Blk.k, hl], fun i row f v u h1 h2 h3 => ?_⟩
  · cases i with
    | zero => simp [Blk.L] at h1; subst h1; rfl
    | succ i => simp [Blk.L] at h1
  · cases i with
    | zero => simp [Blk.L] at h1; subst h1; exact h f v u h2 (by simpa using h3)
    | succ i => simp [Blk.L] at h1

/-- The ghost with one block more. -/
def Gh.push (γ : Gh) (x : Option Nat) (m : Nat) : Gh :=
  { ρ := fun id => if id = γ.n then x else γ.ρ id, m := fun id => if id = γ.n then m else γ.m id, R := γ.R, n := γ.n + 1 }

theorem Gh.push_old (γ : Gh) (x : Option Nat) (m : Nat) {id : Nat} (h : id < γ.n) : (γ.push x m).ρ id = γ.ρ id ∧ (γ.push x m).m id = γ.m id := by
  unfold Gh.push
  simp only
  rw [if_neg (by omega), if_neg (by omega)]
  exact ⟨rfl, rfl⟩
theorem Gh.push_new (γ : Gh) (x : Option Nat) (m : Nat) : (γ.push x m).ρ γ.n = x ∧ (γ.push x m).m γ.n = m := by simp [Gh.push]

theorem Sat.push {γ : Gh} {w w' : World} {H : Heap} (hs : Sat γ w H) {b : Blk} {x : Option Nat} {m : Nat}
    (hkeep : ∀ y, y < w.heap.size → w'.heap[y]? = w.heap[y]?) (hsz : w.heap.size ≤ w'.heap.size) (hx : ∀ y, x = some y → w.heap.size ≤ y)
    (hb : BOk (γ.push x m) w' b m x) (os : w'.os = w.os) (tape : w'.tape = w.tape) (out : w'.output = w.output) :
    Sat (γ.push x m) w' (H ++ [some b]) ∧ Evo H.length γ H w (γ.push x m) (H ++ [some b]) w' := by
  have hkR : ∀ y, γ.R y → w'.heap[y]? = w.heap[y]? := fun y hy => hkeep y (hs.rd y hy).1
  have hL : ∀ y, (γ.push x m).L (H ++ [some b]) y → γ.L H y ∨ w.heap.size ≤ y := by
    rintro y ⟨id, c, h1, h2⟩
    rcases at_push h1 with ⟨h3, h4⟩ | ⟨h3, h4⟩
    · rw [(γ.push_old x m (by rw [hs.n]; exact h3)).1] at h2
      exact .inl ⟨id, c, h4, h2⟩
    · subst h3
      rw [← hs.n, (γ.push_new x m).1] at h2
      exact .inr (hx y h2)
  constructor
  · refine ⟨by simp [Gh.push, hs.n], ?_, ?_, ?_⟩
    · intro id c h1
      rcases at_push h1 with ⟨h3, h4⟩ | ⟨h3, h4⟩
      · rw [(γ.push_old x m (by rw [hs.n]; exact h3)).1, (γ.push_old x m (by rw [hs.n]; exact h3)).2]
        have h5 := hs.blk id c h4
        unfold BOk at h5 ⊢
        cases hid : γ.ρ id with
        | none => rw [hid] at h5; exact h5
        | some z =>
          rw [hid] at h5
          obtain ⟨vs, t, h6, h8, h7⟩ := h5
          exact ⟨vs, t, by rw [hkeep z (hs.lt h4 hid)]; exact h6, h8, h7.mono (by simp [Gh.push]) (fun id hid => γ.push_old x m hid) (fun _ h => h) hkR⟩
      · subst h3 h4
        have := γ.push_new x m
        rw [hs.n] at this
        rw [this.1, this.2]
        exact hb
    · intro id id' c c' z h1 h2 h3 h4
      rcases at_push h1 with ⟨a1, a2⟩ | ⟨a1, a2⟩ <;> rcases at_push h2 with ⟨b1, b2⟩ | ⟨b1, b2⟩
      · rw [(γ.push_old x m (by rw [hs.n]; exact a1)).1] at h3
        rw [(γ.push_old x m (by rw [hs.n]; exact b1)).1] at h4
        exact hs.inj id id' c c' z a2 b2 h3 h4
      · rw [(γ.push_old x m (by rw [hs.n]; exact a1)).1] at h3
        subst b1
        rw [← hs.n, (γ.push_new x m).1] at h4
        have := hx z h4
        have := hs.lt a2 h3
        omega
      · rw [(γ.push_old x m (by rw [hs.n]; exact b1)).1] at h4
        subst a1
        rw [← hs.n, (γ.push_new x m).1] at h3
        have := hx z h3
        have := hs.lt b2 h4
        omega
      · rw [a1, b1]
    · intro y hy
      have h1 := hs.rd y hy
      refine ⟨Nat.lt_of_lt_of_le h1.1 hsz, fun h2 => ?_⟩
      rcases hL y h2 with h3 | h3
      · exact h1.2 h3
      · omega
  · exact ⟨fun id h => γ.push_old x m (by rw [hs.n]; exact h), fun _ h => h, fun _ h => .inl h, hL, os, tape, out, hsz, fun y h1 _ => hkeep y h1⟩

theorem heap_push {w : World} (o : Obj) : (∀ y, y < w.heap.size → (w.alloc o).heap[y]? = w.heap[y]?) ∧ (w.alloc o).heap[w.heap.size]? = some o := by
  constructor
  · intro y hy
    show (w.heap.push o)[y]? = _
    rw [Array.getElem?_push, if_neg (by omega)]
  · show (w.heap.push o)[w.heap.size]? = _
    simp

/-- A value's cells. -/
def cellsOf : AV → Option (List AV)
  | .agg cs => some cs
  | .any => none
  | .tup _ => none
  | .r (.lit (.agg _)) => none
  | v => some [v]

theorem Rel.agg_inv {γ : Gh} {w : World} {cs : List AV} {u : Value} (h : Rel γ w (.agg cs) u) : ∃ vs, u = .agg vs ∧ cs.length = vs.size ∧
    ∀ (i : Nat) (c : AV) (v : Value), cs[i]? = some c → vs[i]? = some v → Rel γ w c v := by
  cases h with
  | agg _ vs h1 h2 => exact ⟨vs, rfl, h1, h2⟩

theorem cellsOf_rel {γ : Gh} {w : World} {v : AV} {cs : List AV} {u : Value} (hc : cellsOf v = some cs) (h : Rel γ w v u) :
    cs.length = u.cells.size ∧ ∀ (i : Nat) (c : AV) (x : Value), cs[i]? = some c → u.cells[i]? = some x → Rel γ w c x := by
  have one : ∀ (u : Value), u.cells = #[u] → Rel γ w v u → cs = [v] → cs.length = u.cells.size ∧ ∀ (i : Nat) (c : AV) (x : Value), cs[i]? = some c → u.cells[i]? = some x → Rel γ w c x := by
    rintro u hu hr rfl
    rw [hu]
    refine ⟨rfl, fun i c x h1 h2 => ?_⟩
    cases i with
    | zero => simp at h1 h2; subst h1 h2; exact hr
    | succ i => simp at h1
  cases h with
  | any _ => simp [cellsOf] at hc
  | agg cs' vs h1 h2 =>
    simp only [cellsOf, Option.some.injEq] at hc
    subst hc
    exact ⟨h1, h2⟩
  | tup _ _ _ _ => simp [cellsOf] at hc
  | r h =>
    cases h with
    | lit _ =>
      cases u <;> first
        | (simp [cellsOf] at hc; done)
        | (simp only [cellsOf, Option.some.injEq] at hc; exact one _ rfl (.r (.lit _)) hc.symm)
    | rd0 k enc A c => simp only [cellsOf, Option.some.injEq] at hc; exact one _ rfl (.r (.rd0 k enc A c)) hc.symm
    | rd k enc xs b o c u a1 a2 a3 a4 a5 => simp only [cellsOf, Option.some.injEq] at hc; exact one _ rfl (.r (.rd k enc xs b o c u a1 a2 a3 a4 a5)) hc.symm
  | fn g cs' vs a1 a2 => simp only [cellsOf, Option.some.injEq] at hc; exact one _ rfl (.fn g cs' vs a1 a2) hc.symm
  | ptr id k i f x a1 a2 => simp only [cellsOf, Option.some.injEq] at hc; exact one _ rfl (.ptr id k i f x a1 a2) hc.symm
  | sl id k off len x c a1 a2 a3 a4 => simp only [cellsOf, Option.some.injEq] at hc; exact one _ rfl (.sl id k off len x c a1 a2 a3 a4) hc.symm
  | slc id k off len x c a1 a2 a3 a4 => simp only [cellsOf, Option.some.injEq] at hc; exact one _ rfl (.slc id k off len x c a1 a2 a3 a4) hc.symm
  | slz id k off A a1 => simp only [cellsOf, Option.some.injEq] at hc; exact one _ rfl (.slz id k off A a1) hc.symm
  | mt A => simp only [cellsOf, Option.some.injEq] at hc; exact one _ rfl (.mt A) hc.symm
  | rp k enc xs i f b o u a1 a2 a3 a4 => simp only [cellsOf, Option.some.injEq] at hc; exact one _ rfl (.rp k enc xs i f b o u a1 a2 a3 a4) hc.symm

/-- A new block of cells, its address handed back. -/
theorem OpA.newCells {P : Program} {o : Oper} {s : Slots} {H : Heap} {K : AV → Heap → Prop} {l : List AV}
    (hop : ∀ γ a w, Sat γ w H → SRel γ w s a → ∃ vs t, (execOp a.eval o).run P w = .ok (.value (.pointer (some ⟨w.heap.size, 0, none⟩))) (w.alloc (.cells vs t)) ∧
      l.length = vs.size ∧ ∀ (i : Nat) (c : AV) (x : Value), l[i]? = some c → vs[i]? = some x → Rel γ w c x)
    (hK : K (.ptr H.length l.length 0 0) (H ++ [some (.cells l)])) : OpA P o s H K := by
  intro γ a w hs hr next Q hn
  obtain ⟨vs, t, h1, h2, h3⟩ := hop γ a w hs hr
  unfold Oper.wp
  rw [h1]
  obtain ⟨hk, hnew⟩ := heap_push (w := w) (.cells vs t)
  have hkR : ∀ y, γ.R y → (w.alloc (.cells vs t)).heap[y]? = w.heap[y]? := fun y hy => hk y (hs.rd y hy).1
  have hp := hs.push (w' := w.alloc (.cells vs t)) (b := .cells l) (x := some w.heap.size) (m := vs.size) hk (by simp) (fun y h => by cases h; exact Nat.le_refl _)
    ⟨vs, t, hnew, rfl, BRel.cells h2 fun f v u a1 a2 => (h3 f v u a1 a2).mono (by simp [Gh.push]) (fun id hid => γ.push_old _ _ hid) (fun _ h => h) hkR⟩ rfl rfl rfl
  refine hn _ _ _ _ _ hK (by simp) hp.2 hp.1 ?_
  have := Rel.ptr (γ := γ.push (some w.heap.size) vs.size) (w := w.alloc (.cells vs t)) H.length l.length 0 0 w.heap.size (by simp [Gh.push, hs.n]) (by rw [← hs.n]; exact (γ.push_new _ _).1)
  simpa using this

theorem OpA.box {P : Program} {o : Oper} {s : Slots} {H : Heap} {K : AV → Heap → Prop} {t : TypeId} {x : Operand} {l : List AV} (ho : o.op = .box t x) (hc : cellsOf (ev s x) = some l)
    (hK : K (.ptr H.length l.length 0 0) (H ++ [some (.cells l)])) : OpA P o s H K :=
  OpA.newCells (fun γ a w hs hr => by
    obtain ⟨h1, h2⟩ := cellsOf_rel hc (ev_rel hr x)
    exact ⟨(a.eval x).cells, t, by simp [execOp, ho, Instr.box, newVar, newRow], h1, h2⟩) hK

theorem OpA.alloc {P : Program} {o : Oper} {s : Slots} {H : Heap} {K : AV → Heap → Prop} {t : TypeId} {y : TyInfo} (ho : o.op = .alloc t) (ht : tyOf P t = some y)
    (hK : K (.ptr H.length y.zero.length 0 0) (H ++ [some (.cells (y.zero.map AV.lit))])) : OpA P o s H K :=
  OpA.newCells (l := y.zero.map AV.lit) (fun γ a w hs hr => by
    obtain ⟨z, h1, h2⟩ := run_zero' ht w
    refine ⟨z.cells, t, by simp [execOp, ho, Instr.alloc, newVar, newRow, h1], by rw [← h2]; simp, fun i c x h3 h4 => ?_⟩
    rw [← h2, List.getElem?_map, Array.getElem?_toList, h4] at h3
    simp only [Option.map_some, Option.some.injEq] at h3
    subst h3
    exact .r (.lit x)) (by simpa using hK)
end Go.Ae
end
section
namespace Go.Ae
set_option linter.unusedVariables false
set_option linter.unusedSimpArgs false

/-- One cell's value. -/
def AV.one : AV → Bool
  | .any => false
  | .r (.lit v) => v.oneCell'
  | .agg _ => false
  | .tup _ => false
  | _ => true

theorem one_rel {γ : Gh} {w : World} {v : AV} {u : Value} (h : v.one = true) (hr : Rel γ w v u) : u.oneCell' = true := by
  cases hr with
  | any _ => simp [AV.one] at h
  | agg _ _ _ _ => simp [AV.one] at h
  | tup _ _ _ _ => simp [AV.one] at h
  | r hr =>
    cases hr with
    | lit _ => exact h
    | rd0 _ _ _ _ => rfl
    | rd _ _ _ _ _ _ _ _ _ _ _ _ => rfl
  | _ => rfl

/-- Row number i of a block, its rows k long. -/
def Blk.row (b : Blk) (k i : Nat) : Option (List AV) := if b.k = k then b.L[i]? else none

theorem Blk.row_cells (l : List AV) : (Blk.cells l).row l.length 0 = some l := by simp [Blk.row, Blk.k, Blk.L]
theorem Blk.row_rows {α : Type} [Inhabited α] (k : Nat) (enc : α → List AV) (xs : List α) {i : Nat} (h : i < xs.length) : (Blk.rows k enc xs).row k i = some (enc (xs.getD i default)) := by
  simp [Blk.row, Blk.k, Blk.L, List.getD_eq_getElem?_getD, h]
theorem Blk.row_raw (k : Nat) (l : List (List AV)) {i : Nat} (h : i < l.length) : (Blk.raw k l).row k i = some (l.getD i []) := by
  simp [Blk.row, Blk.k, Blk.L, List.getD_eq_getElem?_getD, h]

theorem row_at {γ : Gh} {w : World} {b : Blk} {vs : Array Value} (h : BRel γ w b vs) {k i : Nat} {row : List AV} (hr : b.row k i = some row) :
    row.length = k ∧ (i + 1) * k ≤ vs.size ∧ ∀ (f : Nat) (v : AV), row[f]? = some v → ∃ u, vs[i * k + f]? = some u ∧ Rel γ w v u := by
  unfold Blk.row at hr
  split at hr
  · rename_i hk
    subst hk
    have h1 := h.len i row hr
    have h2 : i < b.L.length := (List.getElem?_eq_some_iff.1 hr).1
    have h3 : (i + 1) * b.k ≤ b.L.length * b.k := Nat.mul_le_mul_right _ (by omega)
    have h4 := h.sz
    refine ⟨h1, by omega, fun f v hf => ?_⟩
    have h5 : f < b.k := by rw [← h1]; exact (List.getElem?_eq_some_iff.1 hf).1
    have h6 : i * b.k + f < vs.size := by
      rw [Nat.succ_mul] at h3
      omega
    exact ⟨vs[i * b.k + f], Array.getElem?_eq_getElem h6, h.rel i row f v _ hr hf (Array.getElem?_eq_getElem h6)⟩
  · cases hr

/-- The cell behind an own address. -/
theorem own_cell {γ : Gh} {w : World} {H : Heap} (hs : Sat γ w H) {id k i f x : Nat} {b : Blk} {row : List AV} (hb : H.at id = some b) (hx : γ.ρ id = some x) (hr : b.row k i = some row) :
    ∃ vs t, w.heap[x]? = some (.cells vs t (0, 0)) ∧ vs.size = γ.m id ∧ BRel γ w b vs ∧ row.length = k ∧ (i + 1) * k ≤ vs.size ∧
      ∀ (f : Nat) (v : AV), row[f]? = some v → ∃ u, w.cell? ⟨x, i * k + f, none⟩ = some u ∧ vs[i * k + f]? = some u ∧ Rel γ w v u := by
  have h1 := hs.blk id b hb
  rw [hx] at h1
  obtain ⟨vs, t, h2, hm, h3⟩ := h1
  obtain ⟨h4, h5, h6⟩ := row_at h3 hr
  refine ⟨vs, t, h2, hm, h3, h4, h5, fun f v hf => ?_⟩
  obtain ⟨u, h7, h8⟩ := h6 f v hf
  exact ⟨u, by simp [World.cell?, h2, h7], h7, h8⟩

theorem add_plain' (b o n : Nat) : (⟨b, o, none⟩ : Addr).add n = ⟨b, o + n, none⟩ := by
  unfold Addr.add
  split <;> simp_all

/-- What a variable of a type is out of a row's cells from f on. -/
def packV (y : TyInfo) (row : List AV) (f : Nat) : AV := if y.agg then .agg ((row.drop f).take y.size) else row.getD f .any

theorem load_cells {γ : Gh} {w : World} {P : Program} {t : TypeId} {y : TyInfo} (ht : tyOf P t = some y) {x o : Nat} {row : List AV} {f : Nat}
    (hf : f + y.size ≤ row.length) (h1 : y.agg = false → f < row.length)
    (hc : ∀ (f : Nat) (v : AV), row[f]? = some v → ∃ u, w.cell? ⟨x, o + f, none⟩ = some u ∧ Rel γ w v u) :
    ∃ u, (loadVar t ⟨x, o + f, none⟩).run P w = .ok u w ∧ Rel γ w (packV y row f) u := by
  simp only [loadVar, Sem.run_bind, run_isAgg' ht, Result.andThen_ok, Sem.run_ite]
  cases ha : y.agg with
  | false =>
    have h2 := h1 ha
    obtain ⟨u, hu, hr⟩ := hc f row[f] (List.getElem?_eq_getElem h2)
    refine ⟨u, by simp [hu], ?_⟩
    simp only [packV, ha, Bool.false_eq_true, if_false, List.getD_eq_getElem?_getD, List.getElem?_eq_getElem h2, Option.getD_some]
    exact hr
  | true =>
    have hcell : ∀ j, j < y.size → ∃ u, w.cell? ⟨x, o + f + j, none⟩ = some u := fun j hj => by
      have : f + j < row.length := by omega
      obtain ⟨u, hu, _⟩ := hc (f + j) _ (List.getElem?_eq_getElem this)
      exact ⟨u, by rw [Nat.add_assoc]; exact hu⟩
    let g : Nat → Value := fun j => (w.cell? ⟨x, o + f + j, none⟩).getD undef
    have hl : (loadCells ⟨x, o + f, none⟩ y.size).run P w = .ok ((List.range y.size).map g).toArray w := run_loadCells w _ _ g fun j hj => by
      obtain ⟨u, hu⟩ := hcell j hj
      rw [add_plain']
      simp only [g, hu, Option.getD_some]
    refine ⟨.agg ((List.range y.size).map g).toArray, by simp [run_sizeOf' ht, hl], ?_⟩
    simp only [packV, ha, if_true]
    refine .agg _ _ (by simp; omega) fun i c v hi hv => ?_
    rw [List.getElem?_take] at hi
    split at hi
    · rename_i hlt
      rw [List.getElem?_drop] at hi
      obtain ⟨u, hu, hr⟩ := hc (f + i) c hi
      simp only [List.getElem?_toArray, List.getElem?_map, List.getElem?_range hlt, Option.map_some, Option.some.injEq] at hv
      have : v = u := by
        rw [← hv]
        simp only [g, Nat.add_assoc, hu, Option.getD_some]
      rw [this]
      exact hr
    · cases hi

/-- 'load' out of a block of our own. -/
theorem OpA.load {P : Program} {o : Oper} {s : Slots} {H : Heap} {K : AV → Heap → Prop} {t : TypeId} {x : Operand} {y : TyInfo} {id k i f : Nat} {b : Blk} {row : List AV}
    (ho : o.op = .load t x) (hx : ev s x = .ptr id k i f) (ht : tyOf P t = some y) (hb : H.at id = some b) (hr : b.row k i = some row)
    (hf : f + y.size ≤ row.length) (h1 : y.agg = false → f < row.length) (hK : K (packV y row f) H) : OpA P o s H K :=
  OpA.plain (fun γ a w hs hsr => by
    have h := ev_rel hsr x
    rw [hx] at h
    cases hv : a.eval x <;> rw [hv] at h <;> cases h
    rename_i z hid hz
    obtain ⟨vs, tt, h2, hm, h3, h4, h5, h6⟩ := own_cell hs (f := f) hb hz hr
    obtain ⟨u, hu, hru⟩ := load_cells (γ := γ) (w := w) ht (x := z) (o := i * k) hf h1 fun f v hfv => by
      obtain ⟨u, a1, _, a3⟩ := h6 f v hfv
      exact ⟨u, a1, a3⟩
    exact ⟨u, by simp [execOp, ho, Instr.loadAt, Instr.sureAddr, hv, hu], hru⟩) hK

/-- Readable cells as abstract ones. -/
theorem OpA.loadRd {P : Program} {o : Oper} {s : Slots} {H : Heap} {K : AV → Heap → Prop} {t : TypeId} {x : Operand} {y : TyInfo} {α : Type} [Inhabited α] {k : Nat} {enc : α → List RV} {xs : List α} {i f : Nat}
    (ho : o.op = .load t x) (hx : ev s x = .rp k enc xs i f) (ht : tyOf P t = some y) (hi : i < xs.length)
    (hf : f + y.size ≤ k) (h1 : y.agg = false → f < k) (hK : K (packV y ((enc (xs.getD i default)).map AV.r) f) H) : OpA P o s H K :=
  OpA.plain (fun γ a w hs hsr => by
    have h := ev_rel hsr x
    rw [hx] at h
    generalize hv : a.eval x = val at h
    cases h with
    | rp _ _ _ _ _ bb oo u hR hlen hcell hrel =>
      have hxi : xs[i]? = some (xs.getD i default) := by simp [List.getD_eq_getElem?_getD, hi]
      have hl := hlen i _ hxi
      obtain ⟨v, hv', hrv⟩ := load_cells (γ := γ) (w := w) (row := (enc (xs.getD i default)).map AV.r) ht (x := bb) (o := oo + i * k) (f := f) (by rw [List.length_map, hl]; exact hf) (fun h => by rw [List.length_map, hl]; exact h1 h) fun f v hfv => by
        rw [List.getElem?_map, Option.map_eq_some_iff] at hfv
        obtain ⟨rv, h3, rfl⟩ := hfv
        exact ⟨u i f, hcell i _ f rv hxi h3, .r (hrel i _ f rv hxi h3)⟩
      exact ⟨v, by simp [execOp, ho, Instr.loadAt, Instr.sureAddr, hv, hv'], hrv⟩) hK

theorem OpA.fieldAddr {P : Program} {o : Oper} {s : Slots} {H : Heap} {K : AV → Heap → Prop} {t : TypeId} {x : Operand} {y : TyInfo} {id k i f g off sz : Nat}
    (ho : o.op = .fieldAddr t x g) (hx : ev s x = .ptr id k i f) (ht : tyOf P t = some y) (hoff : y.offs[g]? = some (some (off, sz))) (hK : K (.ptr id k i (f + off)) H) : OpA P o s H K :=
  OpA.plain (fun γ a w hs hsr => by
    have h := ev_rel hsr x
    rw [hx] at h
    cases hv : a.eval x <;> rw [hv] at h <;> cases h
    rename_i z hid hz
    obtain ⟨fs, fd, h1, h2, h3, h4, h5⟩ := run_field' ht w hoff
    refine ⟨.pointer (some ⟨z, i * k + (f + off), none⟩), ?_, .ptr id k i (f + off) z hid hz⟩
    simp [execOp, ho, Instr.fieldAt, h1, h2, Instr.sureAddr, hv, fieldPlace, h4, h5, add_plain', h3, Nat.add_assoc]) hK

theorem OpA.fieldAddrRd {P : Program} {o : Oper} {s : Slots} {H : Heap} {K : AV → Heap → Prop} {t : TypeId} {x : Operand} {y : TyInfo} {α : Type} [Inhabited α] {k : Nat} {enc : α → List RV} {xs : List α} {i f g off sz : Nat}
    (ho : o.op = .fieldAddr t x g) (hx : ev s x = .rp k enc xs i f) (ht : tyOf P t = some y) (hoff : y.offs[g]? = some (some (off, sz))) (hK : K (.rp k enc xs i (f + off)) H) : OpA P o s H K :=
  OpA.plain (fun γ a w hs hsr => by
    have h := ev_rel hsr x
    rw [hx] at h
    generalize hv : a.eval x = val at h
    cases h with
    | rp _ _ _ _ _ bb oo u hR hlen hcell hrel =>
      obtain ⟨fs, fd, h1, h2, h3, h4, h5⟩ := run_field' ht w hoff
      refine ⟨.pointer (some ⟨bb, oo + i * k + (f + off), none⟩), ?_, .rp k enc xs i (f + off) bb oo u hR hlen hcell hrel⟩
      simp [execOp, ho, Instr.fieldAt, h1, h2, Instr.sureAddr, hv, fieldPlace, h4, h5, add_plain', h3, Nat.add_assoc]) hK

theorem run_slot {P : Program} {w : World} {t e : TypeId} {y z : TyInfo} (ht : tyOf P t = some y) (he : y.elem = some e) (hz : tyOf P e = some z) {b o len cap : Nat} {n : Int} {k : IntKind}
    (h0 : 0 ≤ n) (h1 : n < len) : (Instr.indexAt t (.slice (some ⟨b, o, none⟩) len cap) (.int k n)).run P w = .ok (.pointer (some ⟨b, o + n.toNat * z.size, none⟩)) w := by
  simp [Instr.indexAt, asIntOf, run_slice' ht w he, h0, h1, run_sizeOf' hz, add_plain']

theorem OpA.indexAddr {P : Program} {o : Oper} {s : Slots} {H : Heap} {K : AV → Heap → Prop} {t e : TypeId} {x ix : Operand} {y z : TyInfo} {id k off len : Nat} {n : Int} {kk : IntKind}
    (ho : o.op = .indexAddr t x ix) (hx : slAs (ev s x) id k off len) (hi : ev s ix = .lit (.int kk n)) (ht : tyOf P t = some y) (he : y.elem = some e) (hz : tyOf P e = some z) (hk : z.size = k)
    (h0 : 0 ≤ n) (h1 : n < len) (hK : K (.ptr id k (off + n.toNat) 0) H) : OpA P o s H K :=
  OpA.plain (fun γ a w hs hsr => by
    have h := hx.rel (ev_rel hsr x)
    have h2 := ev_rel hsr ix
    rw [hi] at h2
    have h2 := h2.lit_inv
    generalize hv : a.eval x = val at h
    cases h with
    | sl _ _ _ _ xx c hid hxx hc hcm =>
      refine ⟨.pointer (some ⟨xx, off * k + n.toNat * z.size, none⟩), by simp [execOp, ho, hv, h2, run_slot ht he hz h0 h1], ?_⟩
      have := Rel.ptr (γ := γ) (w := w) id k (off + n.toNat) 0 xx hid hxx
      rw [hk, ← Nat.add_mul]
      simpa using this
    | slz _ _ _ A hid => simp at h1; omega) hK

theorem OpA.indexAddrRd {P : Program} {o : Oper} {s : Slots} {H : Heap} {K : AV → Heap → Prop} {t e : TypeId} {x ix : Operand} {y z : TyInfo} {α : Type} [Inhabited α] {k : Nat} {enc : α → List RV} {xs : List α} {n : Int} {kk : IntKind}
    (ho : o.op = .indexAddr t x ix) (hx : ev s x = .r (.rd k enc xs)) (hi : ev s ix = .lit (.int kk n)) (ht : tyOf P t = some y) (he : y.elem = some e) (hz : tyOf P e = some z) (hk : z.size = k)
    (h0 : 0 ≤ n) (h1 : n < xs.length) (hK : K (.rp k enc xs n.toNat 0) H) : OpA P o s H K :=
  OpA.plain (fun γ a w hs hsr => by
    have h := ev_rel hsr x
    have h2 := ev_rel hsr ix
    rw [hx] at h
    rw [hi] at h2
    have h2 := h2.lit_inv
    generalize hv : a.eval x = val at h
    cases h with
    | r h =>
      cases h with
      | rd0 _ _ A c => simp at h1; omega
      | rd _ _ _ bb oo c u hR hc hlen hcell hrel =>
        refine ⟨.pointer (some ⟨bb, oo + n.toNat * z.size, none⟩), by simp [execOp, ho, hv, h2, run_slot ht he hz h0 h1], ?_⟩
        have := Rel.rp (γ := γ) (w := w) k enc xs n.toNat 0 bb oo u hR hlen hcell hrel
        rw [hk]
        simpa using this) hK

/-! ### A store into a block of our own -/
def over (row : List AV) (f : Nat) (cs : List AV) : List AV := row.take f ++ cs ++ row.drop (f + cs.length)

/-- The block with another row. -/
def Heap.put (H : Heap) (id : Nat) (b : Blk) : Heap := H.set id (some b)

theorem at_put {H : Heap} {id : Nat} {b : Blk} (h : id < H.length) : (H.put id b).at id = some b := by simp [Heap.at, Heap.put, List.getD_eq_getElem?_getD, h]
theorem at_put_other {H : Heap} {id j : Nat} {b : Blk} (h : j ≠ id) : (H.put id b).at j = H.at j := by
  simp [Heap.at, Heap.put, List.getD_eq_getElem?_getD, List.getElem?_set_ne (Ne.symm h)]

/-- Block id told anew. -/
theorem Sat.put {γ : Gh} {w w' : World} {H : Heap} (hs : Sat γ w H) {id x : Nat} {b b' : Blk} (hb : H.at id = some b) (hx : γ.ρ id = some x)
    (hkeep : ∀ y, y ≠ x → w'.heap[y]? = w.heap[y]?) (hsz : w'.heap.size = w.heap.size) (hb' : BOk γ w' b' (γ.m id) (some x)) (os : w'.os = w.os) (tape : w'.tape = w.tape) (out : w'.output = w.output) :
    Sat γ w' (H.put id b') ∧ Evo H.length γ H w γ (H.put id b') w' := by
  have hlt := at_lt hb
  have hL : ∀ y, γ.L (H.put id b') y → γ.L H y := by
    rintro y ⟨j, c, h1, h2⟩
    by_cases hj : j = id
    · subst hj; exact ⟨j, b, hb, h2⟩
    · rw [at_put_other hj] at h1; exact ⟨j, c, h1, h2⟩
  have hkR : ∀ y, γ.R y → w'.heap[y]? = w.heap[y]? := fun y hy => hkeep y fun e => (hs.rd y hy).2 ⟨id, b, hb, e ▸ hx⟩
  constructor
  · refine ⟨by simp [Heap.put, hs.n], ?_, ?_, fun y hy => ⟨by rw [hsz]; exact (hs.rd y hy).1, fun h => (hs.rd y hy).2 (hL y h)⟩⟩
    · intro j c h1
      by_cases hj : j = id
      · subst hj
        rw [at_put hlt] at h1
        cases h1
        rw [hx]
        exact hb'
      · rw [at_put_other hj] at h1
        have h2 := hs.blk j c h1
        unfold BOk at h2 ⊢
        cases hz : γ.ρ j with
        | none => rw [hz] at h2; exact h2
        | some z =>
          rw [hz] at h2
          obtain ⟨vs, t, h3, h5, h4⟩ := h2
          exact ⟨vs, t, by rw [hkeep z fun e => hj (hs.inj j id c b x h1 hb (e ▸ hz) hx)]; exact h3, h5, h4.mono (Nat.le_refl _) (fun _ _ => ⟨rfl, rfl⟩) (fun _ h => h) hkR⟩
    · intro j j' c c' z h1 h2 h3 h4
      by_cases hj : j = id <;> by_cases hj' : j' = id
      · rw [hj, hj']
      · rw [at_put_other hj'] at h2; subst hj; exact hs.inj _ _ _ _ z hb h2 h3 h4
      · rw [at_put_other hj] at h1; subst hj'; exact hs.inj _ _ _ _ z h1 hb h3 h4
      · rw [at_put_other hj] at h1; rw [at_put_other hj'] at h2; exact hs.inj _ _ _ _ z h1 h2 h3 h4
  · exact ⟨fun _ _ => ⟨rfl, rfl⟩, fun _ h => h, fun _ h => .inl h, fun y h => .inl (hL y h), os, tape, out, by omega, fun y h1 h2 => hkeep y fun e => h2 ⟨id, b, hb, e ▸ hx⟩⟩

theorem setRow_kept (w : World) (g : Nat) (cs : Array Value) : (∀ y, y ≠ g → (w.setRow g cs).heap[y]? = w.heap[y]?) ∧ (w.setRow g cs).heap.size = w.heap.size :=
  ⟨fun y h => setRow_other w g y cs h, setRow_size w g cs⟩

/-- 'b'' is b but for row i. -/
def Blk.upd (b b' : Blk) (i : Nat) (row : List AV) : Prop := b'.k = b.k ∧ b'.L = b.L.set i row

theorem Blk.upd_cells (l row : List AV) (h : row.length = l.length) : (Blk.cells l).upd (.cells row) 0 row := ⟨h, rfl⟩
theorem Blk.upd_rows {α : Type} [Inhabited α] (k : Nat) (enc : α → List AV) (xs : List α) (i : Nat) (x : α) {row : List AV} (h : enc x = row) : (Blk.rows k enc xs).upd (.rows k enc (xs.set i x)) i row :=
  ⟨rfl, by simp only [Blk.L]; rw [List.map_set, h]⟩
theorem Blk.upd_raw (k : Nat) (l : List (List AV)) (i : Nat) (row : List AV) : (Blk.raw k l).upd (.raw k (l.set i row)) i row := ⟨rfl, rfl⟩

theorem over_length {row cs : List AV} {f : Nat} (h : f + cs.length ≤ row.length) : (over row f cs).length = row.length := by
  simp [over]; omega

theorem over_get {row cs : List AV} {f : Nat} (h : f + cs.length ≤ row.length) (j : Nat) (v : AV) (hv : (over row f cs)[j]? = some v) :
    (f ≤ j ∧ j < f + cs.length ∧ cs[j - f]? = some v) ∨ ((j < f ∨ f + cs.length ≤ j) ∧ row[j]? = some v) := by
  unfold over at hv
  rw [List.append_assoc] at hv
  by_cases h1 : j < f
  · rw [List.getElem?_append_left (by simp; omega), List.getElem?_take, if_pos h1] at hv
    exact .inr ⟨.inl h1, hv⟩
  · have hl : (row.take f).length = f := by simp; omega
    rw [List.getElem?_append_right (by omega), hl] at hv
    by_cases h2 : j < f + cs.length
    · rw [List.getElem?_append_left (by omega)] at hv
      exact .inl ⟨by omega, h2, hv⟩
    · rw [List.getElem?_append_right (by omega), List.getElem?_drop] at hv
      refine .inr ⟨.inr (by omega), ?_⟩
      rw [← hv]
      congr 1
      omega

/-- The cells of a block behind a store. -/
theorem BRel.store {γ : Gh} {w w' : World} {b b' : Blk} {vs : Array Value} (h : BRel γ w b vs) {k i f : Nat} {row cs : List AV} {us : List Value} (hr : b.row k i = some row)
    (hu : b.upd b' i (over row f cs)) (hf : f + cs.length ≤ row.length) (hl : cs.length = us.length) (hcs : ∀ (j : Nat) (c : AV) (u : Value), cs[j]? = some c → us[j]? = some u → Rel γ w c u)
    (hk : ∀ b, γ.R b → w'.heap[b]? = w.heap[b]?) :
    BRel γ w' b' (vs.toList.take (i * k + f) ++ us ++ vs.toList.drop (i * k + f + us.length)).toArray := by
  obtain ⟨h1, h2, h3⟩ := row_at h hr
  unfold Blk.row at hr
  split at hr
  case isFalse => cases hr
  rename_i hbk
  subst hbk
  have hi : i < b.L.length := (List.getElem?_eq_some_iff.1 hr).1
  rw [Nat.succ_mul] at h2
  have hlen : (vs.toList.take (i * b.k + f) ++ us ++ vs.toList.drop (i * b.k + f + us.length)).length = vs.size := by simp; omega
  have hget : ∀ j, (vs.toList.take (i * b.k + f) ++ us ++ vs.toList.drop (i * b.k + f + us.length))[j]? = if i * b.k + f ≤ j ∧ j < i * b.k + f + us.length then us[j - (i * b.k + f)]? else vs[j]? := by
    intro j
    rw [List.append_assoc]
    have hl1 : (vs.toList.take (i * b.k + f)).length = i * b.k + f := by simp; omega
    by_cases a1 : j < i * b.k + f
    · rw [List.getElem?_append_left (by omega), List.getElem?_take, if_pos a1, if_neg (by omega), Array.getElem?_toList]
    · rw [List.getElem?_append_right (by omega), hl1]
      by_cases a2 : j < i * b.k + f + us.length
      · rw [List.getElem?_append_left (by omega), if_pos ⟨by omega, a2⟩]
      · rw [List.getElem?_append_right (by omega), List.getElem?_drop, if_neg (by omega), Array.getElem?_toList]
        congr 1
        omega
  refine ⟨fun j r hj => ?_, by rw [hu.1, hu.2]; simp only [List.length_set, List.size_toArray, hlen]; exact h.sz, fun j r g v u hj hg hv => ?_⟩
  · rw [hu.2, List.getElem?_set] at hj
    rw [hu.1]
    split at hj
    · rw [Option.some.injEq] at hj
      rw [← hj, over_length hf, h1]
    · exact h.len j r hj
  · rw [hu.1, List.getElem?_toArray, hget] at hv
    rw [hu.2, List.getElem?_set] at hj
    have hm : ∀ {v u}, Rel γ w v u → Rel γ w' v u := fun h => h.mono (Nat.le_refl _) (fun _ _ => ⟨rfl, rfl⟩) (fun _ h => h) hk
    split at hj
    · rename_i hij
      subst hij
      rw [Option.some.injEq] at hj
      subst hj
      rcases over_get hf g v hg with ⟨a1, a2, a3⟩ | ⟨a1, a2⟩
      · rw [if_pos (by omega)] at hv
        refine hm (hcs (g - f) v u a3 ?_)
        rw [← hv]
        congr 1
        omega
      · rw [if_neg (by omega)] at hv
        exact hm (h.rel i row g v u hr a2 hv)
    · rename_i hij
      have hgl : g < b.k := by rw [← h.len j r hj]; exact (List.getElem?_eq_some_iff.1 hg).1
      have hout : ¬ (i * b.k + f ≤ j * b.k + g ∧ j * b.k + g < i * b.k + f + us.length) := by
        rintro ⟨c1, c2⟩
        rcases Nat.lt_or_gt_of_ne hij with h5 | h5
        · have := Nat.mul_le_mul_right b.k (show i + 1 ≤ j from h5)
          rw [Nat.succ_mul] at this
          omega
        · have := Nat.mul_le_mul_right b.k (show j + 1 ≤ i from h5)
          rw [Nat.succ_mul] at this
          omega
      rw [if_neg hout] at hv
      exact hm (h.rel j r g v u hj hg hv)

theorem OpA.store {P : Program} {o : Oper} {s : Slots} {H : Heap} {K : AV → Heap → Prop} {t : TypeId} {x v : Operand} {y : TyInfo} {id k i f : Nat} {b b' : Blk} {row cs : List AV}
    (ho : o.op = .store t x v) (hx : ev s x = .ptr id k i f) (ht : tyOf P t = some y) (hb : H.at id = some b) (hr : b.row k i = some row) (hc : cellsOf (ev s v) = some cs)
    (hy : y.size = cs.length) (hf : f + cs.length ≤ row.length) (hone : cs.all AV.one = true) (hu : b.upd b' i (over row f cs)) (hK : K .any (H.put id b')) : OpA P o s H K := by
  intro γ a w hs hsr next Q hn
  have h := ev_rel hsr x
  rw [hx] at h
  obtain ⟨hc1, hc2⟩ := cellsOf_rel hc (ev_rel hsr v)
  cases hv : a.eval x <;> rw [hv] at h <;> cases h
  rename_i z hid hz
  obtain ⟨vs, tt, h2, hm, h3, h4, h5, h6⟩ := own_cell hs (f := f) hb hz hr
  have hsz : i * k + f + 0 + (a.eval v).cells.toList.length ≤ vs.size := by
    rw [Nat.succ_mul] at h5
    simp only [Array.length_toList, ← hc1]
    omega
  have h1c : ∀ u ∈ (a.eval v).cells.toList, u.oneCell' = true := by
    intro u hu'
    obtain ⟨j, hj⟩ := List.mem_iff_getElem?.1 hu'
    have hjl : j < cs.length := by rw [hc1, ← Array.length_toList]; exact (List.getElem?_eq_some_iff.1 hj).1
    rw [Array.getElem?_toList] at hj
    exact one_rel (List.all_eq_true.1 hone _ (List.mem_of_getElem? (List.getElem?_eq_getElem hjl))) (hc2 j _ u (List.getElem?_eq_getElem hjl) hj)
  have hrun := run_storeCells_at P z (i * k + f) tt (a.eval v).cells.toList 0 vs w h2 hsz h1c
  unfold Oper.wp
  have : (execOp a.eval o).run P w = .ok .skip (w.setRow z (vs.toList.take (i * k + f) ++ (a.eval v).cells.toList ++ vs.toList.drop (i * k + f + (a.eval v).cells.toList.length)).toArray) := by
    simp only [Nat.add_zero] at hrun
    simp only [execOp, ho, Instr.storeAt, Instr.sureAddr, hv, storeVar, Sem.run_bind, Sem.run_pure, Result.andThen_ok, run_sizeOf' ht, hy, hc1, ne_eq, not_true, if_false, hrun]
  rw [this]
  obtain ⟨k1, k2⟩ := setRow_kept w z (vs.toList.take (i * k + f) ++ (a.eval v).cells.toList ++ vs.toList.drop (i * k + f + (a.eval v).cells.toList.length)).toArray
  have hp := hs.put (b' := b') hb hz k1 k2 ⟨_, tt, setRow_heap w z _ _ _ _ h2, by rw [← hm]; simp only [List.size_toArray, List.length_append, List.length_take, List.length_drop, Array.length_toList] at hsz ⊢; omega, h3.store hr hu hf (by rw [hc1]; simp) (fun j c u a1 a2 => hc2 j c u a1 (by rwa [Array.getElem?_toList] at a2))
    (fun y hy => k1 y fun e => (hs.rd y hy).2 ⟨id, b, hb, e ▸ hz⟩)⟩ rfl rfl rfl
  exact hn γ undef .any _ _ hK (by simp [Heap.put]) hp.2 hp.1 (.any _)
end Go.Ae
end
section
namespace Go.Ae
set_option linter.unusedVariables false
set_option linter.unusedSimpArgs false

/-! ### Plain operations -/
theorem OpA.lenSl {P : Program} {o : Oper} {s : Slots} {H : Heap} {K : AV → Heap → Prop} {x : Operand} {t : TypeId} {c : Call} {y : TyInfo} {e : TypeId} {n : Nat}
    (ho : o.op = .call c) (hc : c.callee = .builtin .len) (ha : c.args = #[x]) (ht' : c.argTypes[0]? = some t) (ht : tyOf P t = some y) (he : y.elem = some e)
    (hx : (∃ id k off, ev s x = .sl id k off n) ∨ (∃ (α : Type) (_ : Inhabited α) (k : Nat) (enc : α → List RV) (xs : List α), ev s x = .r (.rd k enc xs) ∧ xs.length = n) ∨ (ev s x = .mt ∧ n = 0) ∨ (ev s x = .lit (.slice none 0 0) ∧ n = 0))
    (hK : K (.lit (.int .i64 n)) H) : OpA P o s H K :=
  OpA.plain (fun γ a w hs hsr => by
    have h := ev_rel hsr x
    have hl : ∃ A cap, a.eval x = .slice A n cap := by
      rcases hx with ⟨id, k, off, hx⟩ | ⟨α, _, k, enc, xs, hx, hn⟩ | ⟨hx, hn⟩ | ⟨hx, hn⟩
      · rw [hx] at h
        generalize a.eval x = u at h
        cases h with
        | sl => exact ⟨_, _, rfl⟩
        | slz => exact ⟨_, _, rfl⟩
      · rw [hx] at h
        generalize a.eval x = u at h
        subst hn
        cases h with
        | r h => cases h with
          | rd0 => exact ⟨_, _, rfl⟩
          | rd => exact ⟨_, _, rfl⟩
      · rw [hx] at h
        generalize a.eval x = u at h
        subst hn
        cases h with
        | mt => exact ⟨_, _, rfl⟩
      · rw [hx] at h
        subst hn
        exact ⟨_, _, h.lit_inv⟩
    obtain ⟨A, cap, hl⟩ := hl
    refine ⟨.int .i64 n, ?_, .r (.lit _)⟩
    simp [execOp, ho, resolve, hc, ha, invoke, builtin, Builtin.len_, ht', hl, run_slice' ht w he, goInt]) hK

theorem OpA.lenStr {P : Program} {o : Oper} {s : Slots} {H : Heap} {K : AV → Heap → Prop} {x : Operand} {t : TypeId} {c : Call} {y : TyInfo} {b : ByteArray}
    (ho : o.op = .call c) (hc : c.callee = .builtin .len) (ha : c.args = #[x]) (ht' : c.argTypes[0]? = some t) (ht : tyOf P t = some y) (he : y.str = true)
    (hx : ev s x = .lit (.string b)) (hK : K (.lit (.int .i64 b.size)) H) : OpA P o s H K :=
  OpA.plain (fun γ a w hs hsr => by
    have h := ev_rel hsr x
    rw [hx] at h
    have hl := h.lit_inv
    refine ⟨.int .i64 b.size, ?_, .r (.lit _)⟩
    simp [execOp, ho, resolve, hc, ha, invoke, builtin, Builtin.len_, ht', hl, run_str' ht w he, goInt]) hK

theorem OpA.extract {P : Program} {o : Oper} {s : Slots} {H : Heap} {K : AV → Heap → Prop} {x : Operand} {i : Nat} {vs : List AV} {v : AV}
    (ho : o.op = .extract x i) (hx : ev s x = .tup vs) (hv : vs[i]? = some v) (hK : K v H) : OpA P o s H K :=
  OpA.plain (fun γ a w hs hsr => by
    have h := ev_rel hsr x
    rw [hx] at h
    generalize hu : a.eval x = u at h
    cases h with
    | tup _ us h1 h2 =>
      have h3 : i < us.size := by rw [← h1]; exact (List.getElem?_eq_some_iff.1 hv).1
      exact ⟨us[i], by simp [execOp, ho, Instr.extract, hu, h3], h2 i v _ hv (Array.getElem?_eq_getElem h3)⟩) hK

/-- A field of a value that lies nowhere. -/
def fieldTy (P : Program) (t : TypeId) (f : Nat) : Option (Nat × Nat × Bool) := match P.underlying t with
  | some (.struct fs) => match fs[f]? with
    | some fd => match tyOf P fd.type with
      | some y => some (fd.offset, y.size, y.agg)
      | none => none
    | none => none
  | _ => none
def dropA : Nat → List AV → List AV
  | 0, l => l
  | _ + 1, [] => []
  | n + 1, _ :: l => dropA n l
def takeA : Nat → List AV → List AV
  | 0, _ => []
  | _ + 1, [] => []
  | n + 1, c :: l => c :: takeA n l
def nthA : Nat → List AV → Option AV
  | _, [] => none
  | 0, c :: _ => some c
  | n + 1, _ :: l => nthA n l
theorem dropA_eq : ∀ (n : Nat) (l : List AV), dropA n l = l.drop n
  | 0, l => rfl
  | _ + 1, [] => rfl
  | n + 1, _ :: l => by simp only [dropA, List.drop_succ_cons, dropA_eq n l]
theorem takeA_eq : ∀ (n : Nat) (l : List AV), takeA n l = l.take n
  | 0, l => by simp [takeA]
  | _ + 1, [] => rfl
  | n + 1, c :: l => by simp only [takeA, List.take_succ_cons, takeA_eq n l]
theorem nthA_eq : ∀ (n : Nat) (l : List AV), nthA n l = l[n]?
  | n, [] => by cases n <;> rfl
  | 0, c :: l => rfl
  | n + 1, _ :: l => by simp only [nthA, List.getElem?_cons_succ, nthA_eq n l]
def fieldV (cs : List AV) (off sz : Nat) : Bool → Option AV
  | true => some (.agg (takeA sz (dropA off cs)))
  | false => nthA off cs
theorem OpA.field {P : Program} {o : Oper} {s : Slots} {H : Heap} {K : AV → Heap → Prop} {t : TypeId} {x : Operand} {f off sz : Nat} {ag : Bool} {cs : List AV} {v : AV}
    (ho : o.op = .field t x f) (hx : ev s x = .agg cs) (hf : fieldTy P t f = some (off, sz, ag)) (hv : fieldV cs off sz ag = some v) (hK : K v H) : OpA P o s H K :=
  OpA.plain (fun γ a w hs hsr => by
    have h := ev_rel hsr x
    rw [hx] at h
    obtain ⟨us, hu, h1, h2⟩ := h.agg_inv
    unfold fieldTy at hf
    split at hf
    · rename_i fs h3
      split at hf
      · rename_i fd h4
        split at hf
        · rename_i y h5
          simp only [Option.some.injEq, Prod.mk.injEq] at hf
          obtain ⟨rfl, rfl, rfl⟩ := hf
          have e1 : (underlying t).run P w = .ok (.struct fs) w := by simp [underlying, h3]
          have e2 : (isAgg fd.type).run P w = .ok y.agg w := run_isAgg' h5 w
          have e3 : (sizeOf fd.type).run P w = .ok y.size w := run_sizeOf' h5 w
          cases hag : y.agg with
          | true =>
            rw [hag] at hv e2
            simp only [fieldV, Option.some.injEq] at hv
            subst hv
            refine ⟨.agg (us.extract fd.offset (fd.offset + y.size)), ?_, .agg _ _ ?_ fun i c u hc hu' => ?_⟩
            · simp [execOp, ho, Instr.field, e1, h4, hu, asAgg, part, e2, e3]
            · rw [takeA_eq, dropA_eq, List.length_take, List.length_drop, Array.size_extract]; omega
            · rw [takeA_eq, dropA_eq] at hc
              rw [List.getElem?_take] at hc
              split at hc
              · rename_i hi
                rw [List.getElem?_drop] at hc
                rw [Array.getElem?_extract] at hu'
                split at hu'
                · exact h2 _ c u hc hu'
                · cases hu'
              · cases hc
          | false =>
            rw [hag] at hv e2
            simp only [fieldV, nthA_eq] at hv
            have h3 : fd.offset < us.size := by rw [← h1]; exact (List.getElem?_eq_some_iff.1 hv).1
            exact ⟨us[fd.offset], by simp [execOp, ho, Instr.field, e1, h4, hu, asAgg, part, e2, h3], h2 _ v _ hv (Array.getElem?_eq_getElem h3)⟩
        · cases hf
      · cases hf
    · cases hf) hK

theorem OpA.nilCheck {P : Program} {o : Oper} {s : Slots} {H : Heap} {K : AV → Heap → Prop} {x : Operand}
    (ho : o.op = .nilCheck x) (hx : (∃ id k i f, ev s x = .ptr id k i f) ∨ (∃ g cs, ev s x = .fn g cs) ∨ (∃ (α : Type) (_ : Inhabited α) (k : Nat) (enc : α → List RV) (xs : List α) (i f : Nat), ev s x = .rp k enc xs i f)) (hK : K (ev s x) H) : OpA P o s H K :=
  OpA.plain (fun γ a w hs hsr => by
    have h := ev_rel hsr x
    refine ⟨a.eval x, ?_, h⟩
    rcases hx with ⟨id, k, i, f, hx⟩ | ⟨g, cs, hx⟩ | ⟨α, _, k, enc, xs, i, f, hx⟩ <;> rw [hx] at h <;> generalize hu : a.eval x = u at h <;> cases h <;> simp [execOp, ho, hu]) hK

theorem mapRel {γ : Gh} {w : World} {s : Slots} {a : Act} (hsr : SRel γ w s a) (xs : Array Operand) :
    (xs.toList.map (ev s)).length = (xs.map a.eval).size ∧ ∀ (i : Nat) (c : AV) (v : Value), (xs.toList.map (ev s))[i]? = some c → (xs.map a.eval)[i]? = some v → Rel γ w c v := by
  refine ⟨by simp, fun i c v h1 h2 => ?_⟩
  rw [List.getElem?_map, Option.map_eq_some_iff] at h1
  obtain ⟨x, hx, rfl⟩ := h1
  rw [Array.getElem?_toList] at hx
  rw [Array.getElem?_map, hx] at h2
  cases h2
  exact ev_rel hsr x

theorem OpA.makeFunc {P : Program} {o : Oper} {s : Slots} {H : Heap} {K : AV → Heap → Prop} {g : FuncId} {caps : Array Operand}
    (ho : o.op = .makeFunc (.func g) #[] caps) (hK : K (.fn g (caps.toList.map (ev s))) H) : OpA P o s H K :=
  OpA.plain (fun γ a w hs hsr => by
    obtain ⟨h1, h2⟩ := mapRel hsr caps
    exact ⟨.func (.func g) #[] (caps.map a.eval), by simp [execOp, ho, Instr.makeFunc], .fn g _ _ h1 h2⟩) hK

/-- An operation on two values without addresses. -/
theorem OpA.bin {P : Program} {o : Oper} {s : Slots} {H : Heap} {K : AV → Heap → Prop} {op : BinOp} {t t' : TypeId} {x y : Operand} {u v r : Value}
    (ho : o.op = .binOp op t x y t') (hx : ev s x = .lit u) (hy : ev s y = .lit v) (hr : ∀ w, (do eqGuard op t x y u v; binOp op t u v : Sem Value).run P w = .ok r w) (hK : K (.lit r) H) : OpA P o s H K :=
  OpA.plain (fun γ a w hs hsr => by
    have h1 := ev_rel hsr x
    have h2 := ev_rel hsr y
    rw [hx] at h1
    rw [hy] at h2
    have := hr w
    refine ⟨r, ?_, .r (.lit _)⟩
    simp only [execOp, ho, h1.lit_inv, h2.lit_inv]
    rw [Sem.run_bind, this]
    rfl) hK

theorem OpA.un {P : Program} {o : Oper} {s : Slots} {H : Heap} {K : AV → Heap → Prop} {op : UnOp} {t : TypeId} {x : Operand} {u r : Value}
    (ho : o.op = .unOp op t x) (hx : ev s x = .lit u) (hr : ∀ w, (Op.unary op u).run P w = .ok r w) (hK : K (.lit r) H) : OpA P o s H K :=
  OpA.plain (fun γ a w hs hsr => by
    have h1 := ev_rel hsr x
    rw [hx] at h1
    refine ⟨r, ?_, .r (.lit _)⟩
    simp only [execOp, ho, h1.lit_inv]
    rw [Sem.run_bind, hr w]
    rfl) hK

theorem OpA.conv {P : Program} {o : Oper} {s : Slots} {H : Heap} {K : AV → Heap → Prop} {t t' : TypeId} {x : Operand} {u r : Value}
    (ho : o.op = .convert t t' x) (hx : ev s x = .lit u) (hr : ∀ w, (convert t t' u).run P w = .ok r w) (hK : K (.lit r) H) : OpA P o s H K :=
  OpA.plain (fun γ a w hs hsr => by
    have h1 := ev_rel hsr x
    rw [hx] at h1
    refine ⟨r, ?_, .r (.lit _)⟩
    simp only [execOp, ho, h1.lit_inv]
    rw [Sem.run_bind, hr w]
    rfl) hK

/-- Numbers as they wrap. -/
def wr (k : IntKind) (n : Int) : Int := k.wrap n
theorem wr_id {n : Int} (h1 : -9223372036854775808 ≤ n) (h2 : n ≤ 9223372036854775807) : wr .i64 n = n := by
  simp only [wr, IntKind.wrap, IntKind.bits, IntKind.signed, Bool.true_and, decide_eq_true_eq, ge_iff_le]
  have e1 : (2 ^ 64 : Int) = 18446744073709551616 := by decide
  have e2 : (2 ^ (64 - 1) : Int) = 9223372036854775808 := by decide
  rw [e1, e2]
  split <;> omega
theorem wr_u8 {n : Int} (h1 : 0 ≤ n) (h2 : n ≤ 255) : wr .u8 n = n := by
  simp only [wr, IntKind.wrap, IntKind.bits, IntKind.signed, Bool.false_and, Bool.false_eq_true, if_false]
  have e1 : (2 ^ 8 : Int) = 256 := by decide
  rw [e1]
  omega
theorem wr_u64 {n : Int} (h1 : 0 ≤ n) (h2 : n ≤ 18446744073709551615) : wr .u64 n = n := by
  simp only [wr, IntKind.wrap, IntKind.bits, IntKind.signed, Bool.false_and, Bool.false_eq_true, if_false]
  have e1 : (2 ^ 64 : Int) = 18446744073709551616 := by decide
  rw [e1]
  omega
/-- Numbers as bits. -/
def bitsOf (op : BinOp) (k : IntKind) (a b : Int) : Int :=
  let x := BitVec.ofInt k.bits a
  let y := BitVec.ofInt k.bits b
  k.wrap (match op with
    | .and => x &&& y
    | .or => x ||| y
    | .xor => x ^^^ y
    | _ => x &&& ~~~y).toNat

/-- What an integer operation gives. -/
def intBin (op : BinOp) (k : IntKind) (a b : Int) : Value :=
  match op with
  | .add => .int k (wr k (a + b))
  | .sub => .int k (wr k (a - b))
  | .mul => .int k (wr k (a * b))
  | .eql => .bool (a == b)
  | .neq => .bool (a != b)
  | .lss => .bool (decide (a < b))
  | .leq => .bool (decide (a ≤ b))
  | .gtr => .bool (decide (b < a))
  | .geq => .bool (decide (b ≤ a))
  | .quo => .int k (wr k (a.tdiv b))
  | .rem => .int k (a.tmod b)
  | .shl => .int k (wr k (a * 2 ^ (min b.toNat k.bits)))
  | .shr => .int k (a.fdiv (2 ^ (min b.toNat k.bits)))
  | .and => .int k (bitsOf .and k a b)
  | .or => .int k (bitsOf .or k a b)
  | .xor => .int k (bitsOf .xor k a b)
  | .andNot => .int k (bitsOf .andNot k a b)

/-- When it gives that. -/
def intBinOk (op : BinOp) (k k' : IntKind) (b : Int) : Prop :=
  match op with
  | .quo | .rem => k = k' ∧ b ≠ 0
  | .shl | .shr => 0 ≤ b
  | _ => k = k'

theorem eqGuard_int {P : Program} (op : BinOp) (t : TypeId) (x y : Operand) (k k' : IntKind) (a b : Int) (w : World) : (eqGuard op t x y (.int k a) (.int k' b)).run P w = .ok () w := by
  unfold eqGuard
  split <;> rfl

theorem intBin_run {P : Program} {op : BinOp} {k k' : IntKind} {a b : Int} (h : intBinOk op k k' b) (t : TypeId) (x y : Operand) (w : World) :
    (do eqGuard op t x y (.int k a) (.int k' b); binOp op t (.int k a) (.int k' b) : Sem Value).run P w = .ok (intBin op k a b) w := by
  rw [Sem.run_bind, eqGuard_int, Result.andThen_ok]
  cases op <;> simp only [intBinOk] at h <;>
    first
    | (subst h; simp [binOp, Op.intArith, Op.intCmp, Op.intBits, intBin, wr, bitsOf]; done)
    | (obtain ⟨rfl, hb⟩ := h; simp [binOp, Op.intDiv, intBin, wr, hb]; done)
    | (have hb : ¬ b < 0 := by omega
       simp [binOp, Op.shift, intBin, wr, hb]; done)

theorem boolBin_run {P : Program} (a b : Bool) (t : TypeId) (x z : Operand) (w : World) (hd : P.underlying t = some .bool) :
    (do eqGuard .eql t x z (.bool a) (.bool b); binOp .eql t (.bool a) (.bool b) : Sem Value).run P w = .ok (.bool (a == b)) w ∧
    (do eqGuard .neq t x z (.bool a) (.bool b); binOp .neq t (.bool a) (.bool b) : Sem Value).run P w = .ok (.bool (a != b)) w := by
  have he : (Op.equal t (.bool a) (.bool b)).run P w = .ok (a == b) w := by
    show (Op.equalIn 10000 t (.bool a) (.bool b)).run P w = _
    unfold Op.equalIn
    simp [underlying, hd]
  have g : ∀ op, (eqGuard op t x z (.bool a) (.bool b)).run P w = .ok () w := fun op => by unfold eqGuard; split <;> rfl
  constructor
  · rw [Sem.run_bind, g, Result.andThen_ok]
    show (do pure (.bool (← Op.equal t (.bool a) (.bool b))) : Sem Value).run P w = _
    rw [Sem.run_bind, he]
    rfl
  · rw [Sem.run_bind, g, Result.andThen_ok]
    show (do pure (.bool (!(← Op.equal t (.bool a) (.bool b)))) : Sem Value).run P w = _
    rw [Sem.run_bind, he]
    rfl

/-- What a string operation gives. -/
def strBin (op : BinOp) (a b : ByteArray) : Option Value :=
  match op with
  | .add => some (.string (a ++ b))
  | .eql => some (.bool (a.toList == b.toList))
  | .neq => some (.bool !(a.toList == b.toList))
  | _ => none

theorem strBin_run {P : Program} {op : BinOp} {a b : ByteArray} {r : Value} (h : strBin op a b = some r) (hs : op = .add → a.size + b.size ≤ 9223372036854775807) (t : TypeId) (x y : Operand) (w : World) :
    (do eqGuard op t x y (.string a) (.string b); binOp op t (.string a) (.string b) : Sem Value).run P w = .ok r w := by
  have g : (eqGuard op t x y (.string a) (.string b)).run P w = .ok () w := by unfold eqGuard; split <;> rfl
  rw [Sem.run_bind, g, Result.andThen_ok]
  have hb : binOp op t (.string a) (.string b) = Op.stringOp op a b := by cases op <;> rfl
  rw [hb]
  cases op <;> simp only [strBin, Option.some.injEq, reduceCtorEq] at h <;> subst h
  · have := hs rfl
    have hm : IntKind.max .i64 = 9223372036854775807 := by decide
    simp only [Op.stringOp, hm]
    rw [if_neg (by omega)]
    rfl
  · rfl
  · rfl

/-! ### Calls -/
/-- What a call of function f comes to, from an abstract heap. -/
structure CallA (P : Program) (f : FuncId) (args : List AV) (H : Heap) (K : AV → Heap → Prop) : Prop where
  run : ∀ γ w (us : Array Value), Sat γ w H → args.length = us.size → (∀ (i : Nat) (c : AV) (v : Value), args[i]? = some c → us[i]? = some v → Rel γ w c v) →
    Calls P f us w fun e w' => ∃ u γ' v H', e = .returned u ∧ K v H' ∧ H.length ≤ H'.length ∧ Evo H.length γ H w γ' H' w' ∧ Sat γ' w' H' ∧ Rel γ' w' v u

theorem CallA.mono {P : Program} {f : FuncId} {args : List AV} {H : Heap} {K K' : AV → Heap → Prop} (h : CallA P f args H K) (hk : ∀ v H', K v H' → K' v H') : CallA P f args H K' :=
  ⟨fun γ w us hs hl hr => (h.run γ w us hs hl hr).mono fun _ _ ⟨u, γ', v, H', a1, a2, rest⟩ => ⟨u, γ', v, H', a1, hk _ _ a2, rest⟩⟩

/-- Function f of the program has a body. -/
def hasBody (P : Program) (f : FuncId) : Bool := match P.funcs[f]? with
  | some fn => fn.body.isSome && !(fn.name == "runtime.NumGoroutine")
  | none => false

theorem callFunc_run {P : Program} {f : FuncId} (h : hasBody P f = true) (args : Array Value) (w : World) : (callFunc f args).run P w = .ok (.enter f args) w := by
  unfold hasBody at h
  simp only [callFunc, Sem.run_bind, run_program, Result.andThen_ok]
  cases hf : P.funcs[f]? with
  | none => rw [hf] at h; cases h
  | some fn =>
    rw [hf] at h
    simp only [Bool.and_eq_true, Bool.not_eq_true'] at h
    have h1 : fn.body.isNone = false := by cases hb : fn.body <;> simp_all
    simp only [h.2, Bool.false_eq_true, if_false, h1]
    rfl

theorem OpA.call {P : Program} {o : Oper} {s : Slots} {H : Heap} {K : AV → Heap → Prop} {c : Call} {x : Operand} {f : FuncId} {caps : List AV}
    (ho : o.op = .call c) (hc : c.callee = .value x) (hx : ev s x = .fn f caps) (hb : hasBody P f = true) (h : CallA P f (c.args.toList.map (ev s) ++ caps) H K) : OpA P o s H K := by
  intro γ a w hs hsr next Q hn
  have h1 := ev_rel hsr x
  rw [hx] at h1
  generalize hu : a.eval x = u at h1
  cases h1 with
  | fn _ _ vs hl hr =>
    obtain ⟨m1, m2⟩ := mapRel hsr c.args
    have hrun : (execOp a.eval o).run P w = .ok (.enter f (c.args.map a.eval ++ vs)) w := by
      simp [execOp, ho, resolve, hc, hu, Deferred.ofValue, invoke, callFunc_run hb]
    unfold Oper.wp
    rw [hrun]
    refine (h.run γ w (c.args.map a.eval ++ vs) hs (by simp [hl]) ?_).mono ?_
    · intro i d v hd hv
      by_cases hi : i < (c.args.toList.map (ev s)).length
      · rw [List.getElem?_append_left hi] at hd
        rw [Array.getElem?_append_left (by rw [← m1]; exact hi)] at hv
        exact m2 i d v hd hv
      · rw [List.getElem?_append_right (by omega)] at hd
        rw [Array.getElem?_append_right (by rw [← m1]; omega), ← m1] at hv
        exact hr _ d v hd hv
    · rintro e w' ⟨u, γ', v, H', rfl, a2, a3, a4, a5, a6⟩
      exact hn γ' u v H' w' a2 a3 a4 a5 a6
end Go.Ae
end
section
namespace Go.Ae
set_option linter.unusedVariables false
set_option linter.unusedSimpArgs false

/-! ### build, buildSlice -/
theorem foldl_cells (cs : List Value) (off : Nat) : ∀ (j0 : Nat) (cells : Array Value) (m : Nat), off + j0 + cs.length ≤ cells.size →
    (((cs.zipIdx j0).foldl (fun acc (x : Value × Nat) => acc.setIfInBounds (off + x.2) x.1) cells).size = cells.size) ∧
    ((cs.zipIdx j0).foldl (fun acc (x : Value × Nat) => acc.setIfInBounds (off + x.2) x.1) cells)[m]? = if off + j0 ≤ m ∧ m < off + j0 + cs.length then cs[m - (off + j0)]? else cells[m]? := by
  induction cs with
  | nil => intro j0 cells m h; simp; omega
  | cons c rest ih =>
    intro j0 cells m h
    simp only [List.zipIdx_cons, List.foldl_cons]
    simp only [List.length_cons] at h
    obtain ⟨h1, h2⟩ := ih (j0 + 1) (cells.setIfInBounds (off + j0) c) m (by rw [Array.size_setIfInBounds]; omega)
    refine ⟨by rw [h1]; simp, ?_⟩
    rw [h2]
    simp only [List.length_cons]
    by_cases hm : m = off + j0
    · subst hm
      rw [if_neg (by omega), if_pos (by omega), Array.getElem?_setIfInBounds_self_of_lt (by omega), Nat.sub_self]
      rfl
    · by_cases hin : off + (j0 + 1) ≤ m ∧ m < off + (j0 + 1) + rest.length
      · rw [if_pos hin, if_pos (by omega)]
        have : m - (off + j0) = (m - (off + (j0 + 1))) + 1 := by omega
        rw [this, List.getElem?_cons_succ]
      · rw [if_neg hin, if_neg (by omega), Array.getElem?_setIfInBounds_ne (Ne.symm hm)]

def fillA (place : Nat → Option (Nat × Nat)) (cells : List AV) : List (Nat × AV) → Option (List AV)
  | [] => some cells
  | (i, v) :: rest => match place i, cellsOf v with
    | some (off, size), some cs => if cs.length = size ∧ off + size ≤ cells.length then fillA place (over cells off cs) rest else none
    | _, _ => none

theorem fill_rel {γ : Gh} {w : World} (place : Nat → Option (Nat × Nat)) : ∀ (parts : List (Nat × AV)) (uparts : List (Nat × Value)) (cells out : List AV) (vs : Array Value),
    fillA place cells parts = some out → cells.length = vs.size → (∀ (i : Nat) (c : AV) (u : Value), cells[i]? = some c → vs[i]? = some u → Rel γ w c u) →
    parts.length = uparts.length → (∀ (j : Nat) (p : Nat × AV) (q : Nat × Value), parts[j]? = some p → uparts[j]? = some q → p.1 = q.1 ∧ Rel γ w p.2 q.2) →
    ∃ us, Instr.fill place vs uparts = some us ∧ out.length = us.size ∧ out.length = cells.length ∧ ∀ (i : Nat) (c : AV) (u : Value), out[i]? = some c → us[i]? = some u → Rel γ w c u
  | [], [], cells, out, vs, h, hl, hr, _, _ => by
    simp only [fillA, Option.some.injEq] at h
    subst h
    exact ⟨vs, rfl, hl, rfl, hr⟩
  | [], _ :: _, _, _, _, _, _, _, h, _ => by simp at h
  | _ :: _, [], _, _, _, _, _, _, h, _ => by simp at h
  | (i, v) :: rest, (i', u) :: urest, cells, out, vs, h, hl, hr, hlen, hp => by
    obtain ⟨hi, hv⟩ := hp 0 (i, v) (i', u) rfl rfl
    simp only at hi hv
    subst hi
    simp only [fillA] at h
    cases hpl : place i with
    | none => rw [hpl] at h; simp at h
    | some os =>
      obtain ⟨off, size⟩ := os
      rw [hpl] at h
      cases hc : cellsOf v with
      | none => rw [hc] at h; simp at h
      | some cs =>
        rw [hc] at h
        simp only at h
        split at h
        · rename_i hsz
          obtain ⟨c1, c2⟩ := cellsOf_rel hc hv
          have hb : off + 0 + u.cells.toList.length ≤ vs.size := by simp only [Array.length_toList, ← c1]; omega
          have hf := foldl_cells u.cells.toList off 0 vs
          have hz : (u.cells.zipIdx.foldl (fun acc (x : Value × Nat) => acc.setIfInBounds (off + x.2) x.1) vs) = (u.cells.toList.zipIdx.foldl (fun acc (x : Value × Nat) => acc.setIfInBounds (off + x.2) x.1) vs) := by
            rw [← Array.foldl_toList]
            congr 1
            simp
          obtain ⟨us, r1, r2, r3, r4⟩ := fill_rel place rest urest (over cells off cs) out (u.cells.zipIdx.foldl (fun acc (x : Value × Nat) => acc.setIfInBounds (off + x.2) x.1) vs) h
            (by rw [hz, (hf 0 hb).1, over_length (by omega), hl]) (fun j c x h1 h2 => by
              rw [hz, (hf j hb).2] at h2
              rcases over_get (by omega) j c h1 with ⟨a1, a2, a3⟩ | ⟨a1, a2⟩
              · rw [if_pos (by simp only [Array.length_toList, ← c1]; omega), Array.getElem?_toList] at h2
                exact c2 (j - off) c x a3 (by simpa using h2)
              · rw [if_neg (by simp only [Array.length_toList, ← c1]; omega)] at h2
                exact hr j c x a2 h2) (by simpa using hlen) (fun j p q h1 h2 => hp (j + 1) p q (by simpa using h1) (by simpa using h2))
          refine ⟨us, ?_, r2, by rw [r3, over_length (by omega)], r4⟩
          simp only [Instr.fill, hpl, ← c1, hsz.1, ne_eq, not_true, decide_false, Bool.false_or, decide_eq_true_eq]
          rw [if_neg (by rw [← hl]; simp; omega)]
          exact r1
        · cases h

theorem OpA.build {P : Program} {o : Oper} {s : Slots} {H : Heap} {K : AV → Heap → Prop} {t : TypeId} {y : TyInfo} {parts : Array (Nat × Operand)} {out : List AV}
    (ho : o.op = .build t parts) (ht : tyOf P t = some y) (hst : y.offs.all Option.isSome = true) (hagg : y.offs ≠ [])
    (hf : fillA (fun i => (y.offs[i]?).join) (y.zero.map AV.lit) (parts.toList.map fun p => (p.1, ev s p.2)) = some out) (hK : K (.agg out) H) : OpA P o s H K :=
  OpA.plain (fun γ a w hs hsr => by
    obtain ⟨i, d, z, h1, h2, h3, rfl⟩ := tyOf_spec ht
    have hd : ∃ fs, d = .struct fs := by
      simp only [mkTy] at hagg
      cases d <;> first | exact ⟨_, rfl⟩ | (simp at hagg; done)
    obtain ⟨fs, rfl⟩ := hd
    have hu : (underlying t).run P w = .ok (.struct fs) w := by simp [underlying, h2]
    have hplaces : (fs.mapM fun f => do pure (f.offset, ← sizeOf f.type) : Sem (Array (Nat × Nat))).run P w = .ok (fs.map fun f => (f.offset, ((P.info? f.type).map (·.size)).getD 0)) w := by
      have hall : ∀ f ∈ fs.toList, ∃ j, P.info? f.type = some j ∧ j.size ≠ 0 := by
        intro f hf
        have := List.all_eq_true.1 hst
        simp only [mkTy] at this
        have := this _ (List.mem_map.2 ⟨f, hf, rfl⟩)
        cases hj : P.info? f.type with
        | none => rw [hj] at this; simp at this
        | some j =>
          rw [hj] at this
          refine ⟨j, rfl, fun e => ?_⟩
          simp [e] at this
      have key : ∀ (l : List Field), (∀ f ∈ l, ∃ j, P.info? f.type = some j ∧ j.size ≠ 0) →
          (l.mapM fun f => do pure (f.offset, ← sizeOf f.type) : Sem (List (Nat × Nat))).run P w = .ok (l.map fun f => (f.offset, ((P.info? f.type).map (·.size)).getD 0)) w := by
        intro l
        induction l with
        | nil => intro _; rfl
        | cons f l ih =>
          intro hl
          obtain ⟨j, hj, _⟩ := hl f (by simp)
          have ih := ih fun g hg => hl g (by simp [hg])
          simp [sizeOf, typeInfo] at ih ⊢
          simp [hj, ih]
      rw [Array.mapM_eq_mapM_toList, Sem.run_map, key _ hall, Result.andThen_ok, ← Array.toList_map, Array.toArray_toList]
    have hplace : (fun j : Nat => ((mkTy P i (.struct fs) z).offs[j]?).join) = (fun j : Nat => (fs.map fun f => (f.offset, ((P.info? f.type).map (·.size)).getD 0))[j]?) := by
      funext j
      simp only [mkTy, List.getElem?_map, Array.getElem?_map, Array.getElem?_toList]
      cases hj : fs[j]? with
      | none => rfl
      | some f =>
        have := List.all_eq_true.1 hst _ (List.mem_map.2 ⟨f, by rw [← Array.getElem?_toList] at hj; exact List.mem_of_getElem? hj, rfl⟩)
        cases hjj : P.info? f.type with
        | none => rw [hjj] at this; simp at this
        | some jj =>
          rw [hjj] at this
          by_cases hz : jj.size = 0
          · simp [hz] at this
          · simp [hz, hjj]
    rw [hplace] at hf
    obtain ⟨us, f1, f2, f3, f4⟩ := fill_rel (γ := γ) (w := w) _ _ (parts.toList.map fun p => (p.1, a.eval p.2)) _ out z.cells hf (by simp [mkTy])
      (fun i c u h1 h2 => by
        simp only [mkTy, List.getElem?_map, Array.getElem?_toList, h2, Option.map_some, Option.some.injEq] at h1
        subst h1
        exact .r (.lit u)) (by simp) (fun j p q h1 h2 => by
        rw [List.getElem?_map, Option.map_eq_some_iff] at h1 h2
        obtain ⟨x, hx, rfl⟩ := h1
        obtain ⟨x', hx', rfl⟩ := h2
        rw [hx] at hx'
        cases hx'
        exact ⟨rfl, ev_rel hsr x.2⟩)
    refine ⟨.agg us, ?_, .agg _ _ f2 f4⟩
    have hzv : (zeroValue t).run P w = .ok z w := by simp [zeroValue, typeInfo, h1, h3]
    simp only [execOp, ho, Instr.build, Sem.run_bind, hzv, hu, Result.andThen_ok, hplaces, Array.toList_map]
    rw [f1]
    rfl) hK

/-! ### Slices that are read: their rows -/
/-- The rows of a slice. -/
def rowsOf0 (H : Heap) : AV → Option (List (List AV))
  | @AV.r (@RV.rd _ _ _ enc xs) => some (xs.map fun x => (enc x).map AV.r)
  | .r (.lit (.slice none 0 0)) => some []
  | .mt => some []
  | .sl id k off len => match H.at id with
    | some b => if b.k = k ∧ off + len ≤ b.L.length then some ((b.L.drop off).take len) else none
    | none => none
  | _ => none

/-- Cells one behind the other that read as rows. -/
structure Flat (γ : Gh) (w : World) (k : Nat) (rows : List (List AV)) (us : List Value) : Prop where
  sz : us.length = rows.length * k
  len : ∀ (i : Nat) (row : List AV), rows[i]? = some row → row.length = k
  rel : ∀ (i : Nat) (row : List AV) (f : Nat) (v : AV) (u : Value), rows[i]? = some row → row[f]? = some v → us[i * k + f]? = some u → Rel γ w v u

theorem Flat.nil (γ : Gh) (w : World) (k : Nat) : Flat γ w k [] [] := ⟨by simp, by simp, by simp⟩

theorem flat_of_cells {γ : Gh} {w : World} {k n : Nat} {rows : List (List AV)} (hn : rows.length = n) {b o : Nat} (hlen : ∀ (i : Nat) (row : List AV), rows[i]? = some row → row.length = k)
    (hc : ∀ (i : Nat) (row : List AV) (f : Nat) (v : AV), rows[i]? = some row → row[f]? = some v → ∃ u, w.cell? ⟨b, o + (i * k + f), none⟩ = some u ∧ Rel γ w v u) {P : Program} :
    ∃ us, Flat γ w k rows us ∧ ∀ m, (loadCells ⟨b, o, none⟩ (n * k)).run P (w.drewN m) = .ok us.toArray (w.drewN m) := by
  subst hn
  let g : Nat → Value := fun j => (w.cell? ⟨b, o + j, none⟩).getD undef
  refine ⟨(List.range (rows.length * k)).map g, ⟨by simp, hlen, fun i row f v u h1 h2 h3 => ?_⟩, fun m => ?_⟩
  · obtain ⟨u', h4, h5⟩ := hc i row f v h1 h2
    have hi : i < rows.length := (List.getElem?_eq_some_iff.1 h1).1
    have hf : f < k := by rw [← hlen i row h1]; exact (List.getElem?_eq_some_iff.1 h2).1
    have hm := Nat.mul_le_mul_right k (show i + 1 ≤ rows.length from hi)
    rw [Nat.succ_mul] at hm
    have hlt : i * k + f < rows.length * k := by omega
    rw [List.getElem?_map, List.getElem?_range hlt] at h3
    simp only [Option.map_some, Option.some.injEq] at h3
    have : u = u' := by rw [← h3]; simp only [g, h4, Option.getD_some]
    rw [this]
    exact h5
  · refine run_loadCells _ _ _ g fun j hj => ?_
    have hk : 0 < k := by
      rcases Nat.eq_zero_or_pos k with h0 | h0
      · subst h0; simp at hj
      · exact h0
    have hi : j / k < rows.length := Nat.div_lt_of_lt_mul (by rw [Nat.mul_comm]; exact hj)
    have hf : j % k < (rows[j / k]).length := by rw [hlen _ _ (List.getElem?_eq_getElem hi)]; exact Nat.mod_lt _ hk
    obtain ⟨u', h4, _⟩ := hc (j / k) _ (j % k) _ (List.getElem?_eq_getElem hi) (List.getElem?_eq_getElem hf)
    have he : j / k * k + j % k = j := by rw [Nat.mul_comm]; exact Nat.div_add_mod j k
    rw [he] at h4
    rw [add_plain', World.cell?_drewN]
    simp only [g, h4, Option.getD_some]

theorem firstCells_zero {P : Program} (k : Nat) (A : Option Addr) (cap : Nat) (w : World) : (Builtin.firstCells k 0 (.slice A 0 cap)).run P w = .ok #[] w := by
  cases A with
  | none => rfl
  | some a => simp [Builtin.firstCells, loadCells, loadCellsFrom]

/-- What 'firstCells' reads. -/
theorem slice_flat0 {γ : Gh} {w : World} {H : Heap} (hs : Sat γ w H) {P : Program} {v : AV} {u : Value} {rows : List (List AV)} (hr : rowsOf0 H v = some rows) (h : Rel γ w v u) {k : Nat}
    (hk : ∀ row ∈ rows, row.length = k) :
    ∃ A cap us, u = .slice A rows.length cap ∧ Flat γ w k rows us ∧ ∀ n, (Builtin.firstCells k rows.length u).run P (w.drewN n) = .ok us.toArray (w.drewN n) := by
  have empty : ∀ A cap, u = .slice A 0 cap → rows = [] → ∃ A cap us, u = .slice A rows.length cap ∧ Flat γ w k rows us ∧ ∀ n, (Builtin.firstCells k rows.length u).run P (w.drewN n) = .ok us.toArray (w.drewN n) := by
    rintro A cap rfl rfl
    exact ⟨A, cap, [], rfl, .nil _ _ _, fun n => firstCells_zero k A cap _⟩
  have full : ∀ b o cap, u = .slice (some ⟨b, o, none⟩) rows.length cap →
      (∀ (i : Nat) (row : List AV) (f : Nat) (v : AV), rows[i]? = some row → row[f]? = some v → ∃ u, w.cell? ⟨b, o + (i * k + f), none⟩ = some u ∧ Rel γ w v u) →
      ∃ A cap us, u = .slice A rows.length cap ∧ Flat γ w k rows us ∧ ∀ n, (Builtin.firstCells k rows.length u).run P (w.drewN n) = .ok us.toArray (w.drewN n) := by
    rintro b o cap rfl hc
    obtain ⟨us, h1, h2⟩ := flat_of_cells (γ := γ) (P := P) rfl (fun i row h => hk row (List.mem_of_getElem? h)) hc
    exact ⟨_, cap, us, rfl, h1, fun n => h2 n⟩
  unfold rowsOf0 at hr
  split at hr
  · rename_i α inst k' enc xs
    simp only [Option.some.injEq] at hr
    subst hr
    cases h with
    | r h =>
      cases h with
      | rd0 _ _ A c => exact empty A c rfl rfl
      | rd _ _ _ b o c u hR hc hlen hcell hrel =>
        refine full b o c (by simp) fun i row f v h1 h2 => ?_
        rw [List.getElem?_map, Option.map_eq_some_iff] at h1
        obtain ⟨x, hx, rfl⟩ := h1
        rw [List.getElem?_map, Option.map_eq_some_iff] at h2
        obtain ⟨rv, hrv, rfl⟩ := h2
        have e1 := hlen i x hx
        have e2 := hk _ (List.mem_map.2 ⟨x, List.mem_of_getElem? hx, rfl⟩)
        rw [List.length_map] at e2
        have e3 : k' = k := by omega
        subst e3
        exact ⟨u i f, by rw [← Nat.add_assoc]; exact hcell i x f rv hx hrv, .r (hrel i x f rv hx hrv)⟩
  · simp only [Option.some.injEq] at hr
    subst hr
    exact empty none 0 h.lit_inv rfl
  · simp only [Option.some.injEq] at hr
    subst hr
    cases h with
    | mt A => exact empty A 0 rfl rfl
  · rename_i id k' off len
    split at hr
    · rename_i b hb
      split at hr
      · rename_i hb'
        simp only [Option.some.injEq] at hr
        cases h with
        | slz _ _ _ A hid => exact empty A 0 rfl (by rw [← hr]; simp)
        | sl _ _ _ _ x c hid hx hc hcm =>
          have hl : rows.length = len := by rw [← hr]; simp; omega
          rcases Nat.eq_zero_or_pos len with h0 | h0
          · subst h0
            exact empty _ c rfl (List.length_eq_zero_iff.1 hl)
          · have h1 := hs.blk id b hb
            rw [hx] at h1
            obtain ⟨vs, t, h2, hmm, h3⟩ := h1
            have hkk : k' = k := by
              obtain ⟨r0, e1⟩ : ∃ r0, rows[0]? = some r0 := ⟨_, List.getElem?_eq_getElem (by omega)⟩
              have e2 := hk _ (List.mem_of_getElem? e1)
              have e3 : b.L[off]? = some r0 := by
                rw [← hr, List.getElem?_take, if_pos (by omega), List.getElem?_drop] at e1
                simpa using e1
              have e4 := h3.len off _ e3
              omega
            subst hkk
            refine full x (off * k') c (by rw [hl]) fun i row f v h4 h5 => ?_
            rw [← hr, List.getElem?_take] at h4
            split at h4
            · rw [List.getElem?_drop] at h4
              have hrow : b.row k' (off + i) = some row := by unfold Blk.row; rw [if_pos hb'.1]; exact h4
              obtain ⟨_, _, h6⟩ := row_at h3 hrow
              obtain ⟨u, h7, h8⟩ := h6 f v h5
              refine ⟨u, ?_, h8⟩
              rw [Nat.add_mul, Nat.add_assoc] at h7
              simp [World.cell?, h2, h7]
            · cases h4
      · cases hr
    · cases hr
  · cases hr

def rowsOf (H : Heap) : AV → Option (List (List AV))
  | .slc id k off len _ => rowsOf0 H (.sl id k off len)
  | v => rowsOf0 H v

theorem slice_flat {γ : Gh} {w : World} {H : Heap} (hs : Sat γ w H) {P : Program} {v : AV} {u : Value} {rows : List (List AV)} (hr : rowsOf H v = some rows) (h : Rel γ w v u) {k : Nat}
    (hk : ∀ row ∈ rows, row.length = k) :
    ∃ A cap us, u = .slice A rows.length cap ∧ Flat γ w k rows us ∧ ∀ n, (Builtin.firstCells k rows.length u).run P (w.drewN n) = .ok us.toArray (w.drewN n) := by
  unfold rowsOf at hr
  split at hr
  · exact slice_flat0 hs hr h.slc_sl hk
  · exact slice_flat0 hs hr h hk

end Go.Ae
end
section
namespace Go.Ae
set_option linter.unusedVariables false
set_option linter.unusedSimpArgs false

theorem Flat.mono {γ γ' : Gh} {w w' : World} (hn : γ.n ≤ γ'.n) (hρ : ∀ id, id < γ.n → γ'.ρ id = γ.ρ id ∧ γ'.m id = γ.m id) (hR : ∀ b, γ.R b → γ'.R b)
    (hk : ∀ b, γ.R b → w'.heap[b]? = w.heap[b]?) {k : Nat} {rows : List (List AV)} {us : List Value} (h : Flat γ w k rows us) : Flat γ' w' k rows us :=
  ⟨h.sz, h.len, fun i row f v u h1 h2 h3 => (h.rel i row f v u h1 h2 h3).mono hn hρ hR hk⟩

theorem Flat.brel {γ : Gh} {w : World} {k : Nat} {rows : List (List AV)} {us : List Value} (h : Flat γ w k rows us) {b : Blk} (hb : b.k = k) (hl : b.L = rows) (rest : List Value) :
    BRel γ w b (us ++ rest).toArray := by
  refine ⟨fun i row hi => by rw [hb]; exact h.len i row (hl ▸ hi), by rw [hb, hl]; simp [h.sz], fun i row f v u h1 h2 h3 => ?_⟩
  rw [hb] at h3
  rw [hl] at h1
  have hi : i < rows.length := (List.getElem?_eq_some_iff.1 h1).1
  have hf : f < k := by rw [← h.len i row h1]; exact (List.getElem?_eq_some_iff.1 h2).1
  have hm := Nat.mul_le_mul_right k (show i + 1 ≤ rows.length from hi)
  rw [Nat.succ_mul] at hm
  rw [List.getElem?_toArray, List.getElem?_append_left (by rw [h.sz]; omega)] at h3
  exact h.rel i row f v u h1 h2 h3

theorem Flat.append {γ : Gh} {w : World} {k : Nat} {r1 r2 : List (List AV)} {u1 u2 : List Value} (h1 : Flat γ w k r1 u1) (h2 : Flat γ w k r2 u2) : Flat γ w k (r1 ++ r2) (u1 ++ u2) := by
  refine ⟨by simp [h1.sz, h2.sz, Nat.add_mul], fun i row hi => ?_, fun i row f v u hi hf hu => ?_⟩
  · rcases List.mem_append.1 (List.mem_of_getElem? hi) with h | h
    · obtain ⟨j, hj⟩ := List.mem_iff_getElem?.1 h; exact h1.len j row hj
    · obtain ⟨j, hj⟩ := List.mem_iff_getElem?.1 h; exact h2.len j row hj
  · by_cases hlt : i < r1.length
    · rw [List.getElem?_append_left hlt] at hi
      have hf' : f < k := by rw [← h1.len i row hi]; exact (List.getElem?_eq_some_iff.1 hf).1
      have hm := Nat.mul_le_mul_right k (show i + 1 ≤ r1.length from hlt)
      rw [Nat.succ_mul] at hm
      rw [List.getElem?_append_left (by rw [h1.sz]; omega)] at hu
      exact h1.rel i row f v u hi hf hu
    · rw [List.getElem?_append_right (by omega)] at hi
      have hm := Nat.mul_le_mul_right k (show r1.length ≤ i by omega)
      rw [List.getElem?_append_right (by rw [h1.sz]; omega), h1.sz] at hu
      refine h2.rel (i - r1.length) row f v u hi hf ?_
      rw [← hu, Nat.sub_mul]
      congr 1
      omega

theorem growBy_le (n : Nat) : ∀ (r c : Nat), c ≤ n + (n + 768) / 4 → Builtin.growBy n r c ≤ n + (n + 768) / 4
  | 0, c, h => h
  | r + 1, c, h => by
    unfold Builtin.growBy
    split
    · exact h
    · exact growBy_le n r _ (by omega)

theorem nextslicecap_le {n c : Nat} (h : c < n) : Builtin.nextslicecap n c ≤ 2 * n + 192 := by
  unfold Builtin.nextslicecap
  split
  · omega
  · split
    · omega
    · have := growBy_le n 4 c (by omega)
      omega

section
variable {P : Program} {t t' ty e e' : TypeId} {y y' z : TyInfo} (ht : tyOf P t = some y) (he : y.elem = some e) (hz : tyOf P e = some z) (ht' : tyOf P t' = some y') (he' : y'.elem = some e')
  {base : Option Addr} {sLen sCap n : Nat} {x : Value} {w : World} (hn : ∀ w, (Builtin.lenOf x).run P w = .ok n w)
include ht he hz ht' he' hn
/-- 'append' where there is room. -/
theorem run_append_in {news : List Value} (hnew : (Builtin.firstCells z.size n x).run P w = .ok news.toArray w) (hc : sLen + n ≤ sCap) {w' : World}
    (hst : match base with
      | some a => (storeCells (a.add (sLen * z.size)) news).run P w = .ok () w'
      | none => w' = w) :
    (Builtin.append_ #[t, t'] ty #[.slice base sLen sCap, x]).run P w = .ok (.slice base (sLen + n) sCap) w' := by
  have hu := run_slice' ht w he
  have hu' := run_slice' ht' w he'
  have hs := run_sizeOf' hz w
  cases base with
  | none =>
    simp only at hst
    subst hst
    simp [Builtin.append_, hu, hs, hu', hn, hc, hnew]
  | some a =>
    simp only at hst
    simp [Builtin.append_, hu, hs, hu', hn, hc, hnew, hst]

/-- 'append' where there is no room. -/
theorem run_append_new {olds news : List Value} (hold : (Builtin.firstCells z.size sLen (.slice base sLen sCap)).run P w.drew = .ok olds.toArray w.drew)
    (hnew : (Builtin.firstCells z.size n x).run P w.drew = .ok news.toArray w.drew) (hc : sCap < sLen + n) (hb : (2 * (sLen + n) + 192) * z.bytes ≤ 2 ^ 48) (hs : sLen + n ≤ 2 ^ 40) (hzs : z.zero.length = z.size) :
    ∃ c rest, sLen + n ≤ c ∧ rest.length = (c - (sLen + n)) * z.size ∧ (Builtin.append_ #[t, t'] ty #[.slice base sLen sCap, x]).run P w =
      .ok (.slice (some ⟨w.heap.size, 0, none⟩) (sLen + n) c) (w.drew.alloc (.cells (olds ++ news ++ rest).toArray e)) := by
  have hu := run_slice' ht w he
  have hu' := run_slice' ht' w he'
  have hsz := run_sizeOf' hz w
  obtain ⟨i, d', z', a1, a2, a3, a4⟩ := tyOf_spec hz
  have hbi : i.bytes = z.bytes := by rw [a4]; rfl
  have hle := nextslicecap_le hc
  have hfit : ¬ (281474976710656 < Builtin.nextslicecap (sLen + n) sCap * i.bytes) := by
    rw [hbi]
    have := Nat.mul_le_mul_right z.bytes hle
    omega
  have hmax : ¬ (9223372036854775807 < ((sLen : Int) + (n : Int))) := by omega
  have hcut : sLen + n ≤ (Question.appendCap (sLen + n) sCap e).cut (w.tape w.drawn (.appendCap (sLen + n) sCap e)) := by
    simp only [Question.cut]
    omega
  refine ⟨_, (Builtin.zeroCells z'.cells ((Question.appendCap (sLen + n) sCap e).cut (w.tape w.drawn (.appendCap (sLen + n) sCap e)) - (sLen + n))).toList, hcut, ?_, ?_⟩
  · rw [← hzs, a4]
    simp [Builtin.zeroCells, mkTy]
  have hnc : ¬ (sLen + n ≤ sCap) := by omega
  simp [Builtin.append_, hu, hsz, hu', hn, hnc, hmax, hfit, typeInfo, a1, Question.forced, hold, hnew, zeroValue, a3, newRow]
  congr 2
  apply Array.ext'
  simp
end
/-- A live block is no more told. -/
def Heap.drop1 (H : Heap) (id : Nat) : Heap := H.set id none

theorem at_drop1 {H : Heap} {id j : Nat} {b : Blk} (h : (H.drop1 id).at j = some b) : j ≠ id ∧ H.at j = some b := by
  unfold Heap.drop1 Heap.at at h
  by_cases hj : j = id
  · subst hj
    rw [List.getD_eq_getElem?_getD, List.getElem?_set] at h
    simp only [if_true] at h
    split at h <;> simp at h
  · rw [List.getD_eq_getElem?_getD, List.getElem?_set_ne (Ne.symm hj)] at h
    exact ⟨hj, by unfold Heap.at; rw [List.getD_eq_getElem?_getD]; exact h⟩

theorem Sat.drop1 {γ : Gh} {w : World} {H : Heap} (hs : Sat γ w H) (id : Nat) : Sat γ w (H.drop1 id) :=
  ⟨by simp [Heap.drop1, hs.n], fun j b h => hs.blk j b (at_drop1 h).2, fun j j' b b' x h1 h2 h3 h4 => hs.inj j j' b b' x (at_drop1 h1).2 (at_drop1 h2).2 h3 h4,
    fun x hx => ⟨(hs.rd x hx).1, fun ⟨j, b, h1, h2⟩ => (hs.rd x hx).2 ⟨j, b, (at_drop1 h1).2, h2⟩⟩⟩

theorem Evo.drop1 (γ : Gh) (w : World) (H : Heap) (id p : Nat) : Evo p γ H w γ (H.drop1 id) w :=
  ⟨fun _ _ => ⟨rfl, rfl⟩, fun _ h => h, fun _ h => .inl h, fun _ ⟨j, b, h1, h2⟩ => .inl ⟨j, b, (at_drop1 h1).2, h2⟩, rfl, rfl, rfl, Nat.le_refl _, fun _ _ _ => rfl⟩

theorem length_drop1 (H : Heap) (id : Nat) : (H.drop1 id).length = H.length := by simp [Heap.drop1]

/-- A live block goes on under a new number. -/
theorem Sat.pushOver {γ : Gh} {w w' : World} {H : Heap} (hs : Sat γ w H) {id x : Nat} {b b' : Blk} (hb : H.at id = some b) (hx : γ.ρ id = some x)
    (hkeep : ∀ y, y ≠ x → w'.heap[y]? = w.heap[y]?) (hsz : w'.heap.size = w.heap.size)
    (hb' : BOk (γ.push (some x) (γ.m id)) w' b' (γ.m id) (some x)) (os : w'.os = w.os) (tape : w'.tape = w.tape) (out : w'.output = w.output) :
    Sat (γ.push (some x) (γ.m id)) w' (H.drop1 id ++ [some b']) ∧ Evo H.length γ H w (γ.push (some x) (γ.m id)) (H.drop1 id ++ [some b']) w' := by
  have hLx : γ.L H x := ⟨id, b, hb, hx⟩
  have hkR : ∀ y, γ.R y → w'.heap[y]? = w.heap[y]? := fun y hy => hkeep y fun e => (hs.rd y hy).2 (e ▸ hLx)
  have hcase : ∀ {j : Nat} {c : Blk}, Heap.at (H.drop1 id ++ [some b']) j = some c → (j < H.length ∧ j ≠ id ∧ H.at j = some c) ∨ (j = H.length ∧ c = b') := by
    intro j c h
    rcases at_push h with ⟨h1, h2⟩ | ⟨h1, h2⟩
    · rw [length_drop1] at h1
      obtain ⟨h3, h4⟩ := at_drop1 h2
      exact .inl ⟨h1, h3, h4⟩
    · rw [length_drop1] at h1
      exact .inr ⟨h1, h2⟩
  have hnew : (γ.push (some x) (γ.m id)).ρ H.length = some x ∧ (γ.push (some x) (γ.m id)).m H.length = γ.m id := by rw [← hs.n]; exact γ.push_new _ _
  have hold : ∀ {j}, j < H.length → (γ.push (some x) (γ.m id)).ρ j = γ.ρ j ∧ (γ.push (some x) (γ.m id)).m j = γ.m j := fun h => γ.push_old _ _ (by rw [hs.n]; exact h)
  have hL : ∀ y, (γ.push (some x) (γ.m id)).L (H.drop1 id ++ [some b']) y → γ.L H y := by
    rintro y ⟨j, c, h1, h2⟩
    rcases hcase h1 with ⟨h3, h4, h5⟩ | ⟨h3, h4⟩
    · rw [(hold h3).1] at h2; exact ⟨j, c, h5, h2⟩
    · subst h3; rw [hnew.1] at h2; cases h2; exact hLx
  constructor
  · refine ⟨by simp [Gh.push, Heap.drop1, hs.n], ?_, ?_, fun y hy => ⟨by rw [hsz]; exact (hs.rd y hy).1, fun h => (hs.rd y hy).2 (hL y h)⟩⟩
    · intro j c h1
      rcases hcase h1 with ⟨h3, h4, h5⟩ | ⟨h3, h4⟩
      · rw [(hold h3).1, (hold h3).2]
        have h6 := hs.blk j c h5
        unfold BOk at h6 ⊢
        cases hz : γ.ρ j with
        | none => rw [hz] at h6; exact h6
        | some z =>
          rw [hz] at h6
          obtain ⟨vs, t, h7, h9, h8⟩ := h6
          exact ⟨vs, t, by rw [hkeep z fun e => h4 (hs.inj j id c b x h5 hb (e ▸ hz) hx)]; exact h7, h9, h8.mono (by simp [Gh.push]) (fun i hi => γ.push_old _ _ hi) (fun _ h => h) hkR⟩
      · subst h3 h4
        rw [hnew.1, hnew.2]
        exact hb'
    · intro j j' c c' z h1 h2 h3 h4
      rcases hcase h1 with ⟨a1, a2, a3⟩ | ⟨a1, a2⟩ <;> rcases hcase h2 with ⟨b1, b2, b3⟩ | ⟨b1, b2⟩
      · rw [(hold a1).1] at h3; rw [(hold b1).1] at h4; exact hs.inj j j' c c' z a3 b3 h3 h4
      · rw [(hold a1).1] at h3; subst b1; rw [hnew.1] at h4; cases h4; exact absurd (hs.inj j id c b x a3 hb h3 hx) a2
      · rw [(hold b1).1] at h4; subst a1; rw [hnew.1] at h3; cases h3; exact absurd (hs.inj j' id c' b x b3 hb h4 hx) b2
      · rw [a1, b1]
  · exact ⟨fun j hj => hold hj, fun _ h => h, fun _ h => .inl h, fun y h => .inl (hL y h), os, tape, out, by omega, fun y h1 h2 => hkeep y fun e => h2 (e ▸ hLx)⟩

/-- A slice's heap when it is given away. -/
def dropD (H : Heap) : AV → Heap
  | .sl id _ _ _ => H.drop1 id
  | _ => H

/-- A slice that ends where its block's rows end: its rows. -/
def topRows (H : Heap) (k : Nat) : AV → Option (List (List AV))
  | .r (.lit (.slice none 0 0)) => some []
  | .mt => some []
  | .sl id k' off len => match H.at id with
    | some b => if k' = k ∧ b.k = k ∧ off = 0 ∧ len = b.L.length then some b.L else none
    | none => none
  | _ => none

theorem length_dropD (H : Heap) (v : AV) : (dropD H v).length = H.length := by
  unfold dropD; split <;> simp [Heap.drop1]

end Go.Ae
end
section
namespace Go.Ae
set_option linter.unusedVariables false
set_option linter.unusedSimpArgs false

theorem storeCells_nil {P : Program} (a : Addr) (w : World) : (storeCells a []).run P w = .ok () w := rfl

/-- The new slice behind an append that made a new block. -/
theorem append_new_rel {γ : Gh} {w : World} {H : Heap} (hs : Sat γ w H) {e : TypeId} {k c : Nat} {rows : List (List AV)} {us rest : List Value} (hf : Flat γ w k rows us) (hc : rows.length ≤ c) (hsz : c * k ≤ (us ++ rest).length) :
    ∃ γ', Evo H.length γ H w γ' (H ++ [some (.raw k rows)]) (w.drew.alloc (.cells (us ++ rest).toArray e)) ∧
      Sat γ' (w.drew.alloc (.cells (us ++ rest).toArray e)) (H ++ [some (.raw k rows)]) ∧
      Rel γ' (w.drew.alloc (.cells (us ++ rest).toArray e)) (.sl H.length k 0 rows.length) (.slice (some ⟨w.heap.size, 0, none⟩) rows.length c) := by
  obtain ⟨hk, hnew⟩ := heap_push (w := w.drew) (.cells (us ++ rest).toArray e)
  have hkR : ∀ y, γ.R y → (w.drew.alloc (.cells (us ++ rest).toArray e)).heap[y]? = w.heap[y]? := fun y hy => hk y (hs.rd y hy).1
  have hp := hs.push (w' := w.drew.alloc (.cells (us ++ rest).toArray e)) (b := .raw k rows) (x := some w.heap.size) (m := (us ++ rest).length) hk (by simp) (fun y h => by cases h; exact Nat.le_refl _)
    ⟨_, e, hnew, by simp, (hf.mono (by simp [Gh.push]) (fun id hid => γ.push_old _ _ hid) (fun _ h => h) hkR).brel rfl rfl rest⟩ rfl rfl rfl
  refine ⟨_, hp.2, hp.1, ?_⟩
  have := Rel.sl (γ := γ.push (some w.heap.size) (us ++ rest).length) (w := w.drew.alloc (.cells (us ++ rest).toArray e)) H.length k 0 rows.length w.heap.size c (by simp [Gh.push, hs.n])
    (by rw [← hs.n]; exact (γ.push_new _ _).1) hc (by rw [← hs.n, (γ.push_new _ _).2]; simpa using hsz)
  simpa using this

/-- A number given to a slice of nothing. -/
theorem push_empty {γ : Gh} {w : World} {H : Heap} (hs : Sat γ w H) (k : Nat) (A : Option Addr) :
    ∃ γ', Evo H.length γ H w γ' (H ++ [some (.raw k [])]) w ∧ Sat γ' w (H ++ [some (.raw k [])]) ∧ Rel γ' w (.sl H.length k 0 0) (.slice A 0 0) := by
  have hp := hs.push (w' := w) (b := .raw k []) (x := none) (m := 0) (fun _ _ => rfl) (Nat.le_refl _) (fun y h => by cases h) rfl rfl rfl rfl
  exact ⟨_, hp.2, hp.1, .slz _ _ _ _ (by simp [Gh.push, hs.n])⟩

theorem Flat.len_of {γ : Gh} {w : World} {k : Nat} {rows : List (List AV)} {us : List Value} (h : Flat γ w k rows us) : us.length = rows.length * k := h.sz

theorem flat_one {γ : Gh} {w : World} {k : Nat} {rows : List (List AV)} {us : List Value} (h : Flat γ w k rows us) (hone : ∀ row ∈ rows, row.all AV.one = true) : ∀ u ∈ us, u.oneCell' = true := by
  intro u hu
  obtain ⟨j, hj⟩ := List.mem_iff_getElem?.1 hu
  have hjl : j < rows.length * k := by rw [← h.sz]; exact (List.getElem?_eq_some_iff.1 hj).1
  have hk : 0 < k := by
    rcases Nat.eq_zero_or_pos k with h0 | h0
    · subst h0; simp at hjl
    · exact h0
  have hi : j / k < rows.length := Nat.div_lt_of_lt_mul (by rw [Nat.mul_comm]; exact hjl)
  have hf : j % k < (rows[j / k]).length := by rw [h.len _ _ (List.getElem?_eq_getElem hi)]; exact Nat.mod_lt _ hk
  have he : j / k * k + j % k = j := by rw [Nat.mul_comm]; exact Nat.div_add_mod j k
  have := h.rel (j / k) _ (j % k) _ u (List.getElem?_eq_getElem hi) (List.getElem?_eq_getElem hf) (by rw [he]; exact hj)
  exact one_rel (List.all_eq_true.1 (hone _ (List.getElem_mem hi)) _ (List.getElem_mem hf)) this

theorem OpA.append {P : Program} {o : Oper} {s : Slots} {H : Heap} {K : AV → Heap → Prop} {c : Call} {x v : Operand} {t t' e e' : TypeId} {y y' z : TyInfo} {k : Nat} {R S : List (List AV)}
    (ho : o.op = .call c) (hc : c.callee = .builtin .append) (ha : c.args = #[x, v]) (hat : c.argTypes = #[t, t']) (ht : tyOf P t = some y) (he : y.elem = some e) (hz : tyOf P e = some z)
    (ht' : tyOf P t' = some y') (he' : y'.elem = some e') (hk : z.size = k) (hR : topRows H k (ev s x) = some R) (hS : rowsOf H (ev s v) = some S) (hSk : ∀ row ∈ S, row.length = k)
    (hone : ∀ row ∈ S, row.all AV.one = true) (hn : R.length + S.length ≤ 2 ^ 31) (hby : z.bytes ≤ 4096) (hzs : z.zero.length = z.size)
    (hK : K (.sl H.length k 0 (R.length + S.length)) (dropD H (ev s x) ++ [some (.raw k (R ++ S))])) : OpA P o s H K := by
  subst hk
  intro γ a w hs hsr next Q hnx
  have hx := ev_rel hsr x
  have hv := ev_rel hsr v
  obtain ⟨A', cap', news, hveq, hfl, hfirst⟩ := slice_flat hs (P := P) hS hv hSk
  have hlen : ∀ w, (Builtin.lenOf (a.eval v)).run P w = .ok S.length w := fun w => by rw [hveq]; rfl
  have hbb : (2 * (R.length + S.length) + 192) * z.bytes ≤ 2 ^ 48 := by
    have h1 : 2 * (R.length + S.length) + 192 ≤ 2 ^ 33 := by omega
    calc _ ≤ 2 ^ 33 * 4096 := Nat.mul_le_mul h1 hby
      _ ≤ 2 ^ 48 := by decide
  -- the operation, out of the append's own run
  have wrap : ∀ {u w'}, (Builtin.append_ #[t, t'] o.type #[a.eval x, a.eval v]).run P w = .ok u w' → next (a.put o.dst u) w' → o.wp P a w next Q := by
    intro u w' h1 h2
    unfold Oper.wp
    have : (execOp a.eval o).run P w = .ok (.value u) w' := by
      simp only [execOp, ho, resolve, hc, hat, Sem.run_bind, Sem.run_pure, Result.andThen_ok, invoke, builtin, ha]
      simp only [List.map_toArray, List.map_cons, List.map_nil, h1, Result.andThen_ok]
    rw [this]
    exact h2
  -- nothing ahead
  have nothing : ∀ A H', a.eval x = .slice A 0 0 → R = [] → (dropD H (ev s x) = H') → Sat γ w H' → Evo H.length γ H w γ H' w → H'.length = H.length → o.wp P a w next Q := by
    intro A H' hax hRn hH' hs' hev hl
    subst hRn
    rw [hH'] at hK
    simp only [List.length_nil, Nat.zero_add, List.nil_append] at hK hn hbb
    rcases Nat.eq_zero_or_pos S.length with h0 | h0
    · have hS0 : S = [] := List.length_eq_zero_iff.1 h0
      have hn0 : news = [] := List.length_eq_zero_iff.1 (by rw [hfl.sz, h0, Nat.zero_mul])
      subst hS0 hn0
      obtain ⟨γ', e1, e2, e3⟩ := push_empty hs' z.size A
      refine wrap (u := .slice A 0 0) (w' := w) ?_ (hnx γ' _ _ _ w hK (by simp [hl]) (hev.trans (by rw [← hl]; exact e1)) e2 (by rw [← hl]; exact e3))
      rw [hax]
      have := run_append_in (ty := o.type) (w := w) ht he hz ht' he' (base := A) (sLen := 0) (sCap := 0) hlen (hfirst 0) (by simp) (w' := w) (by cases A with | none => rfl | some a => exact storeCells_nil _ _)
      simpa using this
    · obtain ⟨cc, rest, hcc, hrl, hrun⟩ := run_append_new (ty := o.type) (w := w) ht he hz ht' he' (base := A) (sLen := 0) (sCap := 0) (olds := []) hlen (firstCells_zero _ _ _ _)
        (hfirst 1) (by omega) (by simpa using hbb) (by omega) hzs
      simp only [Nat.zero_add, List.nil_append] at hrun hcc hrl
      have hrest : cc * z.size ≤ (news ++ rest).length := by
        rw [List.length_append, hfl.sz, hrl, ← Nat.add_mul]
        exact Nat.mul_le_mul_right _ (by omega)
      obtain ⟨γ', e1, e2, e3⟩ := append_new_rel hs' (e := e) hfl hcc hrest
      exact wrap (by rw [hax]; exact hrun) (hnx γ' _ _ _ _ hK (by simp [hl]) (hev.trans (by rw [← hl]; exact e1)) e2 (by rw [← hl]; exact e3))
  unfold topRows at hR
  split at hR
  · rename_i hxe
    simp only [Option.some.injEq] at hR
    rw [hxe] at hx
    exact nothing none H hx.lit_inv hR.symm (by rw [hxe]; rfl) hs (.refl _ _ _ _) rfl
  · rename_i hxe
    simp only [Option.some.injEq] at hR
    rw [hxe] at hx
    generalize hu : a.eval x = u at hx
    cases hx with
    | mt A => exact nothing A H hu hR.symm (by rw [hxe]; rfl) hs (.refl _ _ _ _) rfl
  · rename_i id k' off len hxe
    split at hR
    case h_2 => cases hR
    rename_i b hb
    split at hR
    case isFalse => cases hR
    rename_i hcond
    obtain ⟨rfl, hbk, rfl, hlenb⟩ := hcond
    simp only [Option.some.injEq] at hR
    subst hR
    have hdrop : dropD H (ev s x) = H.drop1 id := by rw [hxe]; rfl
    rw [hxe] at hx
    generalize hu : a.eval x = u at hx
    cases hx with
    | slz _ _ _ A hid =>
      exact nothing A (H.drop1 id) hu (List.length_eq_zero_iff.1 hlenb.symm) hdrop (hs.drop1 id) (.drop1 _ _ _ _ _) (length_drop1 _ _)
    | sl _ _ _ _ xx cap hid hxx hcap hcm =>
      rw [hdrop] at hK
      have hbo := hs.blk id b hb
      rw [hxx] at hbo
      obtain ⟨vs, tt, h2, hmm, h3⟩ := hbo
      have hst : rowsOf H (.sl id z.size 0 len) = some b.L := by
        simp only [rowsOf, rowsOf0, hb]
        rw [if_pos ⟨hbk, by omega⟩, List.drop_zero, hlenb, List.take_length]
      obtain ⟨A2, cap2, olds, hueq, hofl, hofirst⟩ := slice_flat hs (P := P) hst (.sl (γ := γ) (w := w) id z.size 0 len xx cap hid hxx hcap hcm) (k := z.size)
        (fun row hrow => by obtain ⟨j, hj⟩ := List.mem_iff_getElem?.1 hrow; rw [← hbk]; exact h3.len j row hj)
      have hall := hofl.append hfl
      by_cases hroom : b.L.length + S.length ≤ cap
      · -- in place
        have hsz : b.L.length * z.size + 0 + news.length ≤ vs.size := by
          rw [hfl.sz, hmm, Nat.add_zero, ← Nat.add_mul]
          have := Nat.mul_le_mul_right z.size hroom
          omega
        have hstore := run_storeCells_at P xx (b.L.length * z.size) tt news 0 vs w h2 hsz (flat_one hfl hone)
        simp only [Nat.add_zero] at hstore
        generalize hw' : w.setRow xx (vs.toList.take (b.L.length * z.size) ++ news ++ vs.toList.drop (b.L.length * z.size + news.length)).toArray = w' at hstore
        obtain ⟨k1, k2⟩ := setRow_kept w xx (vs.toList.take (b.L.length * z.size) ++ news ++ vs.toList.drop (b.L.length * z.size + news.length)).toArray
        rw [hw'] at k1 k2
        have hheap : w'.heap[xx]? = some (.cells (vs.toList.take (b.L.length * z.size) ++ news ++ vs.toList.drop (b.L.length * z.size + news.length)).toArray tt (0, 0)) := by
          rw [← hw']; exact setRow_heap w xx _ _ _ _ h2
        have hRx : ∀ y, γ.R y → w'.heap[y]? = w.heap[y]? := fun y hy => k1 y fun e => (hs.rd y hy).2 ⟨id, b, hb, e ▸ hxx⟩
        have hfl' : Flat γ w z.size (b.L ++ S) (vs.toList.take (b.L.length * z.size) ++ news) := by
          refine Flat.append ⟨by simp; have := h3.sz; rw [hbk] at this; omega, fun i row hi => by rw [← hbk]; exact h3.len i row hi, fun i row f v u h4 h5 h6 => ?_⟩ hfl
          rw [List.getElem?_take] at h6
          split at h6
          · rw [Array.getElem?_toList] at h6
            exact h3.rel i row f v u h4 h5 (by rw [hbk]; exact h6)
          · cases h6
        have hp := hs.pushOver (w' := w') (b' := .raw z.size (b.L ++ S)) hb hxx k1 k2
          ⟨_, tt, hheap, by rw [← hmm]; simp only [List.size_toArray, List.length_append, List.length_take, List.length_drop, Array.length_toList]; omega,
            (hfl'.mono (by simp [Gh.push]) (fun i hi => γ.push_old _ _ hi) (fun _ h => h) hRx).brel rfl rfl _⟩ (by rw [← hw']; rfl) (by rw [← hw']; rfl) (by rw [← hw']; rfl)
        refine wrap (u := .slice (some ⟨xx, 0 * z.size, none⟩) (b.L.length + S.length) cap) (w' := w') ?_ (hnx _ _ _ _ w' hK (by simp [Heap.drop1]) hp.2 hp.1 ?_)
        · rw [hu, ← hlenb]
          refine run_append_in (ty := o.type) ht he hz ht' he' hlen (hfirst 0) (by rw [hlenb]; exact hroom) ?_
          simp only [Nat.zero_mul, add_plain', Nat.zero_add, hlenb]
          exact hstore
        · have hnew : (γ.push (some xx) (γ.m id)).ρ H.length = some xx ∧ (γ.push (some xx) (γ.m id)).m H.length = γ.m id := by rw [← hs.n]; exact γ.push_new _ _
          exact .sl _ _ _ _ xx cap (by simp [Gh.push, hs.n]) hnew.1 hroom (by rw [hnew.2]; exact hcm)
      · -- a new block
        obtain ⟨cc, rest, hcc, hrl, hrun⟩ := run_append_new (ty := o.type) (w := w) (base := some ⟨xx, 0 * z.size, none⟩) (sLen := len) (sCap := cap) (olds := olds) (news := news) ht he hz ht' he' hlen
          (by have := hofirst 1; rw [← hlenb] at this; exact this) (hfirst 1) (by omega) (by rw [hlenb]; exact hbb) (by rw [hlenb]; omega) hzs
        have hrest : cc * z.size ≤ (olds ++ news ++ rest).length := by
          rw [List.length_append, hall.sz, hrl, ← Nat.add_mul, List.length_append]
          exact Nat.mul_le_mul_right _ (by omega)
        obtain ⟨γ', e1, e2, e3⟩ := append_new_rel (hs.drop1 id) (e := e) hall (c := cc) (by rw [List.length_append]; omega) hrest
        refine wrap (by rw [hu]; exact hrun) (hnx γ' _ _ _ _ hK (by simp [Heap.drop1]) ((Evo.drop1 _ _ _ id _).trans (by rw [← length_drop1 H id]; exact e1)) e2 ?_)
        rw [length_drop1, List.length_append] at e3
        rw [hlenb]
        exact e3
  · cases hR
end Go.Ae
end
section
namespace Go.Ae
set_option linter.unusedVariables false
set_option linter.unusedSimpArgs false

/-- A slice written out: its rows. -/
def litRows (k : Nat) (cells : List AV) : Nat → List (List AV)
  | 0 => []
  | n + 1 => cells.take k :: litRows k (cells.drop k) n

theorem litRows_get (k : Nat) : ∀ (n : Nat) (cells : List AV), cells.length = n * k → (litRows k cells n).length = n ∧
    (∀ (i : Nat) (row : List AV), (litRows k cells n)[i]? = some row → row.length = k ∧ ∀ f, f < k → row[f]? = cells[i * k + f]?)
  | 0, cells, h => by simp [litRows]
  | n + 1, cells, h => by
    rw [Nat.succ_mul] at h
    obtain ⟨h1, h2⟩ := litRows_get k n (cells.drop k) (by simp; omega)
    refine ⟨by simp [litRows, h1], fun i row hi => ?_⟩
    cases i with
    | zero =>
      simp only [litRows, List.getElem?_cons_zero, Option.some.injEq] at hi
      subst hi
      refine ⟨by simp; omega, fun f hf => ?_⟩
      rw [List.getElem?_take, if_pos hf]
      simp
    | succ i =>
      simp only [litRows, List.getElem?_cons_succ] at hi
      obtain ⟨h3, h4⟩ := h2 i row hi
      refine ⟨h3, fun f hf => ?_⟩
      rw [h4 f hf, List.getElem?_drop, Nat.succ_mul]
      congr 1
      omega

def repL (z : List AV) : Nat → List AV
  | 0 => []
  | n + 1 => z ++ repL z n

theorem repL_length (z : List AV) : ∀ n, (repL z n).length = n * z.length
  | 0 => by simp [repL]
  | n + 1 => by simp [repL, repL_length z n, Nat.succ_mul]; omega

theorem repL_get (z : List AV) : ∀ (n j : Nat), j < n * z.length → (repL z n)[j]? = z[j % z.length]?
  | 0, j, h => by simp at h
  | n + 1, j, h => by
    rw [Nat.succ_mul] at h
    simp only [repL]
    by_cases hj : j < z.length
    · rw [List.getElem?_append_left hj, Nat.mod_eq_of_lt hj]
    · rw [List.getElem?_append_right (by omega), repL_get z n _ (by omega), Nat.mod_eq_sub_mod (a := j) (by omega)]

/-- A new row block that a slice of our own covers. -/
theorem new_rows {γ : Gh} {w : World} {H : Heap} (hs : Sat γ w H) {e : TypeId} {k n : Nat} {rows : List (List AV)} {vs : Array Value} (hn : rows.length = n) (hsz : vs.size = n * k)
    (hlen : ∀ (i : Nat) (row : List AV), rows[i]? = some row → row.length = k)
    (hr : ∀ (i : Nat) (row : List AV) (f : Nat) (v : AV) (u : Value), rows[i]? = some row → row[f]? = some v → vs[i * k + f]? = some u → Rel γ w v u) :
    ∃ γ', Evo H.length γ H w γ' (H ++ [some (.raw k rows)]) (w.alloc (.cells vs e)) ∧ Sat γ' (w.alloc (.cells vs e)) (H ++ [some (.raw k rows)]) ∧
      Rel γ' (w.alloc (.cells vs e)) (.sl H.length k 0 n) (.slice (some ⟨w.heap.size, 0, none⟩) n n) := by
  obtain ⟨hk, hnew⟩ := heap_push (w := w) (.cells vs e)
  have hkR : ∀ y, γ.R y → (w.alloc (.cells vs e)).heap[y]? = w.heap[y]? := fun y hy => hk y (hs.rd y hy).1
  have hp := hs.push (w' := w.alloc (.cells vs e)) (b := .raw k rows) (x := some w.heap.size) (m := vs.size) hk (by simp) (fun y h => by cases h; exact Nat.le_refl _)
    ⟨_, e, hnew, rfl, ⟨hlen, by simp only [Blk.L, Blk.k]; rw [hn, hsz]; exact Nat.le_refl _, fun i row f v u h1 h2 h3 =>
      (hr i row f v u h1 h2 h3).mono (by simp [Gh.push]) (fun id hid => γ.push_old _ _ hid) (fun _ h => h) hkR⟩⟩ rfl rfl rfl
  refine ⟨_, hp.2, hp.1, ?_⟩
  have := Rel.sl (γ := γ.push (some w.heap.size) vs.size) (w := w.alloc (.cells vs e)) H.length k 0 n w.heap.size n (by simp [Gh.push, hs.n])
    (by rw [← hs.n]; exact (γ.push_new _ _).1) (Nat.le_refl _) (by rw [← hs.n, (γ.push_new _ _).2, hsz]; simp)
  simpa using this

theorem zero_cells {z : Value} {n : Nat} {k : Nat} (hk : z.cells.size = k) (hk0 : k ≠ 0) (j : Nat) (u : Value) (h : ((Array.range (n * k)).map (z.cells[· % z.cells.size]!))[j]? = some u) :
    j < n * k ∧ z.cells[j % k]? = some u := by
  rw [Array.getElem?_map, Array.getElem?_range] at h
  split at h
  · rename_i hj
    refine ⟨hj, ?_⟩
    simp only [Option.map_some, Option.some.injEq] at h
    have hm : j % z.cells.size < z.cells.size := Nat.mod_lt _ (by omega)
    rw [← hk, Array.getElem?_eq_getElem hm, ← h, getElem!_pos z.cells _ hm]
  · simp at h

theorem OpA.buildSlice {P : Program} {o : Oper} {s : Slots} {H : Heap} {K : AV → Heap → Prop} {t e : TypeId} {y z : TyInfo} {len : Nat} {parts : Array (Nat × Operand)} {out : List AV}
    (ho : o.op = .buildSlice t len parts) (ht : tyOf P t = some y) (he : y.elem = some e) (hz : tyOf P e = some z) (hzs : z.zero.length = z.size) (hz0 : z.size ≠ 0) (hlen : len * z.size ≤ 2 ^ 24)
    (hf : fillA (fun i => some (i * z.size, z.size)) (repL (z.zero.map AV.lit) len) (parts.toList.map fun p => (p.1, ev s p.2)) = some out)
    (hK : K (.sl H.length z.size 0 len) (H ++ [some (.raw z.size (litRows z.size out len))])) : OpA P o s H K := by
  intro γ a w hs hsr next Q hn
  obtain ⟨zv, h1, h2⟩ := run_zero' hz w
  have hzc : zv.cells.size = z.size := by rw [← Array.length_toList, h2, hzs]
  have hrl : (repL (z.zero.map AV.lit) len).length = len * z.size := by rw [repL_length, List.length_map, hzs]
  obtain ⟨us, f1, f2, f3, f4⟩ := fill_rel (γ := γ) (w := w) _ _ (parts.toList.map fun p => (p.1, a.eval p.2)) _ out ((Array.range (len * z.size)).map (zv.cells[· % zv.cells.size]!)) hf
    (by rw [hrl]; simp)
    (fun i c u h3 h4 => by
      obtain ⟨g1, g2⟩ := zero_cells hzc hz0 i u h4
      rw [repL_get _ _ _ (by rw [List.length_map, hzs]; exact g1), List.length_map, hzs, List.getElem?_map, ← h2, Array.getElem?_toList, g2] at h3
      simp only [Option.map_some, Option.some.injEq] at h3
      subst h3
      exact .r (.lit u)) (by simp) (fun j p q h1 h2 => by
      rw [List.getElem?_map, Option.map_eq_some_iff] at h1 h2
      obtain ⟨x, hx, rfl⟩ := h1
      obtain ⟨x', hx', rfl⟩ := h2
      rw [hx] at hx'
      cases hx'
      exact ⟨rfl, ev_rel hsr x.2⟩)
  have hol : out.length = len * z.size := by rw [f3, hrl]
  obtain ⟨l1, l2⟩ := litRows_get z.size len out hol
  obtain ⟨γ', e1, e2, e3⟩ := new_rows hs (e := e) (k := z.size) l1 (by rw [← f2, hol]) (fun i row h => (l2 i row h).1) (fun i row f v u h3 h4 h5 => by
    have hf' : f < z.size := by rw [← (l2 i row h3).1]; exact (List.getElem?_eq_some_iff.1 h4).1
    rw [(l2 i row h3).2 f hf'] at h4
    exact f4 _ v u h4 h5)
  unfold Oper.wp
  have : (execOp a.eval o).run P w = .ok (.value (.slice (some ⟨w.heap.size, 0, none⟩) len len)) (w.alloc (.cells us e)) := by
    have hle : ¬ (len * z.size > 2 ^ 24) := by omega
    simp only [execOp, ho, Instr.buildSlice, Sem.run_bind, run_slice' ht w he, run_sizeOf' hz, Result.andThen_ok, Array.toList_map]
    rw [if_neg hle]
    by_cases h0 : len * z.size = 0
    · have hl0 : len = 0 := by
        rcases Nat.mul_eq_zero.1 h0 with h | h
        · exact h
        · exact absurd h hz0
      subst hl0
      have hz' : ∀ g : Nat → Value, (Array.range 0).map g = #[] := fun g => by apply Array.ext <;> simp
      simp only [Nat.zero_mul, if_true, hz'] at f1 ⊢
      simp only [Sem.run_pure, Sem.run_bind, Result.andThen_ok, Array.size_empty, hz']
      rw [f1]
      simp [newRow]
    · rw [if_neg h0]
      simp only [Sem.run_bind, h1, Result.andThen_ok, Sem.run_pure]
      rw [f1]
      simp [newRow]
  rw [this]
  exact hn γ' _ _ _ _ hK (by simp) e1 e2 e3

theorem OpA.makeSlice {P : Program} {o : Oper} {s : Slots} {H : Heap} {K : AV → Heap → Prop} {t e : TypeId} {y z : TyInfo} {l c : Operand} {n : Int}
    (ho : o.op = .makeSlice t l c) (ht : tyOf P t = some y) (he : y.elem = some e) (hz : tyOf P e = some z) (hzs : z.zero.length = z.size) (hz0 : z.size ≠ 0)
    (hl : ev s l = .lit (.int .i64 n)) (hc : ev s c = .lit (.int .i64 n)) (h0 : 0 ≤ n) (hmax : n ≤ 2 ^ 31) (hby : z.bytes ≤ 4096)
    (hK : K (.sl H.length z.size 0 n.toNat) (H ++ [some (.raw z.size (List.replicate n.toNat (z.zero.map AV.lit)))])) : OpA P o s H K := by
  intro γ a w hs hsr next Q hn
  have hl' := ev_rel hsr l
  have hc' := ev_rel hsr c
  rw [hl] at hl'
  rw [hc] at hc'
  have hl' := hl'.lit_inv
  have hc' := hc'.lit_inv
  obtain ⟨zv, h1, h2⟩ := run_zero' hz w
  have hzc : zv.cells.size = z.size := by rw [← Array.length_toList, h2, hzs]
  obtain ⟨i, d', z', a1, a2, a3, a4⟩ := tyOf_spec hz
  have hbi : i.bytes = z.bytes := by rw [a4]; rfl
  obtain ⟨γ', e1, e2, e3⟩ := new_rows hs (e := e) (k := z.size) (n := n.toNat) (rows := List.replicate n.toNat (z.zero.map AV.lit)) (vs := (Array.range (n.toNat * z.size)).map (zv.cells[· % zv.cells.size]!)) (by simp) (by simp)
    (fun i row h => by
      rw [List.getElem?_replicate] at h
      split at h
      · cases h; simp [hzs]
      · cases h) (fun i row f v u h3 h4 h5 => by
      rw [List.getElem?_replicate] at h3
      split at h3
      · cases h3
        have hf' : f < z.size := by have := (List.getElem?_eq_some_iff.1 h4).1; simpa [hzs] using this
        obtain ⟨g1, g2⟩ := zero_cells hzc hz0 _ u h5
        rw [Nat.mul_comm, Nat.mul_add_mod, Nat.mod_eq_of_lt hf'] at g2
        rw [List.getElem?_map, ← h2, Array.getElem?_toList, g2] at h4
        simp only [Option.map_some, Option.some.injEq] at h4
        subst h4
        exact .r (.lit u)
      · cases h3)
  unfold Oper.wp
  have : (execOp a.eval o).run P w = .ok (.value (.slice (some ⟨w.heap.size, 0, none⟩) n.toNat n.toNat)) (w.alloc (.cells ((Array.range (n.toNat * z.size)).map (zv.cells[· % zv.cells.size]!)) e)) := by
    have hw : IntKind.i64.wrap n = n := by have := wr_id (n := n) (by omega) (by omega); exact this
    have hb : ¬ (281474976710656 < (i.bytes : Int) * n) := by
      rw [hbi]
      have h3 : (z.bytes : Int) * n ≤ 4096 * (2 ^ 31 : Int) := Int.mul_le_mul (by omega) (by omega) h0 (by decide)
      have : (4096 : Int) * (2 ^ 31 : Int) ≤ 281474976710656 := by decide
      omega
    have hn0 : ¬ n < 0 := by omega
    by_cases hz' : n.toNat * z.size = 0
    · have hn' : n.toNat = 0 := by
        rcases Nat.mul_eq_zero.1 hz' with h | h
        · exact h
        · exact absurd h hz0
      simp [execOp, ho, Instr.makeSlice, run_slice' ht w he, hl', hc', asInt, asIntOf, typeInfo, a1, hw, hb, hn0, run_sizeOf' hz, hn', newRow]
      congr 2
      apply Array.ext <;> simp
    · simp [execOp, ho, Instr.makeSlice, run_slice' ht w he, hl', hc', asInt, asIntOf, typeInfo, a1, hw, hb, hn0, run_sizeOf' hz, hz', h1, newRow]
  rw [this]
  exact hn γ' _ _ _ _ hK (by simp) e1 e2 e3
end Go.Ae
end
section
namespace Go.Ae
set_option linter.unusedVariables false
set_option linter.unusedSimpArgs false

/-- A bound of a slice expression: what stands there, or the default. -/
def bnd (s : Slots) : Option Operand → Int → Option Int
  | none, d => some d
  | some x, _ => match ev s x with
    | .r (.lit (.int _ n)) => some n
    | _ => none

theorem run_sliceBound {P : Program} {k : IntKind} {n : Int} {y : Nat} {code : BoundsCode} (h0 : 0 ≤ n) (h1 : n ≤ y) (w : World) : (Instr.sliceBound (.int k n) y code).run P w = .ok n.toNat w := by
  simp [Instr.sliceBound, asIntOf, h0, h1]

theorem run_sliceBounds {P : Program} {γ : Gh} {w : World} {s : Slots} {a : Act} (hsr : SRel γ w s a) {lo hi : Option Operand} {l h : Int} {isS : Bool} {len cap : Nat}
    (hlo : bnd s lo 0 = some l) (hhi : bnd s hi len = some h) (h0 : 0 ≤ l) (h1 : l ≤ h) (h2 : h ≤ cap) :
    (Instr.sliceBounds isS len cap (lo.map a.eval) (hi.map a.eval) none).run P w = .ok (l.toNat, h.toNat, cap) w := by
  have hh : ∀ x, hi = some x → ∃ k, a.eval x = .int k h := by
    rintro x rfl
    simp only [bnd] at hhi
    have hx := ev_rel hsr x
    split at hhi
    · rename_i k n he
      rw [he] at hx
      simp only [Option.some.injEq] at hhi
      subst hhi
      exact ⟨k, hx.lit_inv⟩
    · cases hhi
  have hl : ∀ x, lo = some x → ∃ k, a.eval x = .int k l := by
    rintro x rfl
    simp only [bnd] at hlo
    have hx := ev_rel hsr x
    split at hlo
    · rename_i k n he
      rw [he] at hx
      simp only [Option.some.injEq] at hlo
      subst hlo
      exact ⟨k, hx.lit_inv⟩
    · cases hlo
  cases hi with
  | none =>
    simp only [bnd, Option.some.injEq] at hhi
    subst hhi
    cases lo with
    | none =>
      simp only [bnd, Option.some.injEq] at hlo
      subst hlo
      simp [Instr.sliceBounds]
    | some x =>
      obtain ⟨k, hx⟩ := hl x rfl
      have := run_sliceBound (P := P) (k := k) (n := l) (y := len) (code := .sliceB) h0 (by omega) w
      simp [Instr.sliceBounds, hx, this]
  | some x' =>
    obtain ⟨k', hx'⟩ := hh x' rfl
    have g1 := run_sliceBound (P := P) (k := k') (n := h) (y := cap) (code := if isS then .sliceAcap else .sliceAlen) (by omega) h2 w
    cases lo with
    | none =>
      simp only [bnd, Option.some.injEq] at hlo
      subst hlo
      simp [Instr.sliceBounds, hx', g1]
    | some x =>
      obtain ⟨k, hx⟩ := hl x rfl
      have := run_sliceBound (P := P) (k := k) (n := l) (y := h.toNat) (code := .sliceB) h0 (by omega) w
      simp [Instr.sliceBounds, hx, hx', g1, this]

theorem run_sliceBounds3 {P : Program} {γ : Gh} {w : World} {s : Slots} {a : Act} (hsr : SRel γ w s a) {lo : Option Operand} {hi mx : Operand} {kh km : IntKind} {l h m : Int} {len cap : Nat}
    (hlo : bnd s lo 0 = some l) (hhi : ev s hi = .lit (.int kh h)) (hmx : ev s mx = .lit (.int km m)) (h0 : 0 ≤ l) (h1 : l ≤ h) (h2 : h ≤ m) (h3 : m ≤ cap) :
    (Instr.sliceBounds true len cap (lo.map a.eval) (some (a.eval hi)) (some (a.eval mx))).run P w = .ok (l.toNat, h.toNat, m.toNat) w := by
  have e1 := ev_rel hsr hi
  have e2 := ev_rel hsr mx
  rw [hhi] at e1
  rw [hmx] at e2
  have e1 := e1.lit_inv
  have e2 := e2.lit_inv
  have g1 := run_sliceBound (P := P) (k := km) (n := m) (y := cap) (code := .slice3Acap) (by omega) h3 w
  have g2 := run_sliceBound (P := P) (k := kh) (n := h) (y := m.toNat) (code := .slice3B) (by omega) (by omega) w
  cases lo with
  | none =>
    simp only [bnd, Option.some.injEq] at hlo
    subst hlo
    simp [Instr.sliceBounds, e1, e2, g1, g2]
  | some x =>
    simp only [bnd] at hlo
    have hx := ev_rel hsr x
    split at hlo
    · rename_i k n he
      rw [he] at hx
      simp only [Option.some.injEq] at hlo
      subst hlo
      have hx := hx.lit_inv
      have g3 := run_sliceBound (P := P) (k := k) (n := n) (y := h.toNat) (code := .slice3C) h0 (by omega) w
      simp [Instr.sliceBounds, hx, e1, e2, g1, g2, g3]
    · cases hlo

theorem sliceAt_slice {P : Program} {t e : TypeId} {y z : TyInfo} (ht : tyOf P t = some y) (he : y.elem = some e) (hz : tyOf P e = some z) {A : Option Addr} {len cap l h m : Nat} {lo hi mx : Option Value} {w : World}
    (hb : (Instr.sliceBounds true len cap lo hi mx).run P w = .ok (l, h, m) w) :
    (Instr.sliceAt t (.slice A len cap) lo hi mx).run P w = .ok (.slice (if m = l then A else A.map (·.add (l * z.size))) (h - l) (m - l)) w := by
  have hu := run_slice' ht w he
  simp only [Instr.sliceAt, Sem.run_bind, hu, Result.andThen_ok, Instr.slice, hb, run_sizeOf' hz]
  rfl

theorem OpA.sliceSl {P : Program} {o : Oper} {s : Slots} {H : Heap} {K : AV → Heap → Prop} {t e : TypeId} {y z : TyInfo} {x : Operand} {lo hi : Option Operand} {id k off len : Nat} {l h : Int}
    (ho : o.op = .slice t x lo hi none) (ht : tyOf P t = some y) (he : y.elem = some e) (hz : tyOf P e = some z) (hk : z.size = k) (hx : slAs (ev s x) id k off len)
    (hlo : bnd s lo 0 = some l) (hhi : bnd s hi len = some h) (h0 : 0 ≤ l) (h1 : l ≤ h) (h2 : h ≤ len) (hK : K (.sl id k (off + l.toNat) (h.toNat - l.toNat)) H) : OpA P o s H K :=
  OpA.plain (fun γ a w hs hsr => by
    have hv := hx.rel (ev_rel hsr x)
    generalize hu : a.eval x = u at hv
    subst hk
    cases hv with
    | slz _ _ _ A hid =>
      simp only [Int.natCast_zero] at h2
      have hl : l = 0 := by omega
      have hh : h = 0 := by omega
      subst hl hh
      have hb := sliceAt_slice ht he hz (A := A) (len := 0) (cap := 0) (run_sliceBounds (P := P) (isS := true) (cap := 0) hsr hlo hhi (by omega) (by omega) (by simp))
      refine ⟨_, by simp only [execOp, ho, hu]; rw [Sem.run_bind, Option.map_none, hb]; rfl, ?_⟩
      simpa using Rel.slz (γ := γ) (w := w) id z.size (off + 0) A hid
    | sl _ _ _ _ xx c hid hxx hc hcm =>
      have hb := sliceAt_slice ht he hz (A := some ⟨xx, off * z.size, none⟩) (run_sliceBounds (P := P) (isS := true) (cap := c) hsr hlo hhi h0 h1 (by omega))
      refine ⟨_, by simp only [execOp, ho, hu]; rw [Sem.run_bind, Option.map_none, hb]; rfl, ?_⟩
      by_cases hcl : c = l.toNat
      · have e1 : h.toNat - l.toNat = 0 := by omega
        have e2 : c - l.toNat = 0 := by omega
        rw [e1, e2]
        exact .slz _ _ _ _ hid
      · rw [if_neg hcl]
        simp only [Option.map_some, add_plain', ← Nat.add_mul]
        refine .sl _ _ _ _ xx _ hid hxx (by omega) ?_
        have : (off + l.toNat) * z.size + (c - l.toNat) * z.size = off * z.size + c * z.size := by
          rw [← Nat.add_mul, ← Nat.add_mul]
          congr 1
          omega
        omega) hK

theorem OpA.sliceRd {P : Program} {o : Oper} {s : Slots} {H : Heap} {K : AV → Heap → Prop} {t e : TypeId} {y z : TyInfo} {x : Operand} {lo hi : Option Operand} {α : Type} [Inhabited α] {k : Nat} {enc : α → List RV} {xs : List α} {l h : Int}
    (ho : o.op = .slice t x lo hi none) (ht : tyOf P t = some y) (he : y.elem = some e) (hz : tyOf P e = some z) (hk : z.size = k) (hx : ev s x = .r (.rd k enc xs))
    (hlo : bnd s lo 0 = some l) (hhi : bnd s hi xs.length = some h) (h0 : 0 ≤ l) (h1 : l ≤ h) (h2 : h ≤ xs.length) (hK : K (.r (.rd k enc ((xs.take h.toNat).drop l.toNat))) H) : OpA P o s H K :=
  OpA.plain (fun γ a w hs hsr => by
    have hv := ev_rel hsr x
    rw [hx] at hv
    generalize hu : a.eval x = u at hv
    subst hk
    cases hv with
    | r hv =>
      cases hv with
      | rd0 _ _ A c =>
        simp only [List.length_nil, Int.natCast_zero] at h2 hhi
        have hl : l = 0 := by omega
        have hh : h = 0 := by omega
        subst hl hh
        have hb := sliceAt_slice ht he hz (A := A) (len := 0) (cap := c) (run_sliceBounds (P := P) (isS := true) (cap := c) hsr hlo hhi (by omega) (by omega) (by omega))
        refine ⟨_, by simp only [execOp, ho, hu]; rw [Sem.run_bind, Option.map_none, hb]; rfl, ?_⟩
        simpa using Rel.r (γ := γ) (w := w) (RRel.rd0 z.size enc _ _)
      | rd _ _ _ bb oo c u hR hc hlen hcell hrel =>
        have hb := sliceAt_slice ht he hz (A := some ⟨bb, oo, none⟩) (run_sliceBounds (P := P) (isS := true) (cap := c) hsr hlo hhi h0 h1 (by omega))
        refine ⟨_, by simp only [execOp, ho, hu]; rw [Sem.run_bind, Option.map_none, hb]; rfl, ?_⟩
        have hln : ((xs.take h.toNat).drop l.toNat).length = h.toNat - l.toNat := by simp; omega
        by_cases hcl : c = l.toNat
        · have e1 : h.toNat - l.toNat = 0 := by omega
          rw [e1] at hln ⊢
          rw [List.length_eq_zero_iff.1 hln]
          exact .r (.rd0 _ _ _ _)
        · rw [if_neg hcl]
          simp only [Option.map_some, add_plain']
          rw [← hln]
          have get : ∀ {i : Nat} {x : α}, ((xs.take h.toNat).drop l.toNat)[i]? = some x → xs[l.toNat + i]? = some x := by
            intro i x hi
            rw [List.getElem?_drop, List.getElem?_take] at hi
            split at hi
            · exact hi
            · cases hi
          refine .r (.rd _ _ _ bb (oo + l.toNat * z.size) _ (fun i f => u (l.toNat + i) f) hR (by omega) (fun i x hi => hlen _ x (get hi)) (fun i x f v hi hf => ?_) (fun i x f v hi hf => hrel _ x f v (get hi) hf))
          have := hcell _ x f v (get hi) hf
          rw [Nat.add_mul] at this
          rw [show oo + l.toNat * z.size + i * z.size + f = oo + (l.toNat * z.size + i * z.size) + f by omega]
          exact this) hK

theorem OpA.sliceStr {P : Program} {o : Oper} {s : Slots} {H : Heap} {K : AV → Heap → Prop} {t : TypeId} {y : TyInfo} {x : Operand} {lo hi : Option Operand} {b : ByteArray} {l h : Int}
    (ho : o.op = .slice t x lo hi none) (ht : tyOf P t = some y) (he : y.str = true) (hx : ev s x = .lit (.string b))
    (hlo : bnd s lo 0 = some l) (hhi : bnd s hi b.size = some h) (h0 : 0 ≤ l) (h1 : l ≤ h) (h2 : h ≤ b.size) (hK : K (.lit (.string (b.extract l.toNat h.toNat))) H) : OpA P o s H K :=
  OpA.plain (fun γ a w hs hsr => by
    have hv := ev_rel hsr x
    rw [hx] at hv
    have hv := hv.lit_inv
    have hb := run_sliceBounds (P := P) (isS := false) (len := b.size) (cap := b.size) hsr hlo hhi h0 h1 h2
    have hu := run_str' ht w he
    refine ⟨.string (b.extract l.toNat h.toNat), ?_, .r (.lit _)⟩
    simp only [execOp, ho, hv, Instr.sliceAt, Instr.slice, Sem.run_bind, hu, Result.andThen_ok, Option.map_none, Option.isSome_none, Bool.false_eq_true, if_false, Sem.run_pure, hb]) hK

/-- 's[:0:0]'. -/
theorem OpA.slice00 {P : Program} {o : Oper} {s : Slots} {H : Heap} {K : AV → Heap → Prop} {t e : TypeId} {y z : TyInfo} {x h m : Operand} {kh km : IntKind}
    (ho : o.op = .slice t x none (some h) (some m)) (ht : tyOf P t = some y) (he : y.elem = some e) (hz : tyOf P e = some z)
    (hx : (∃ id k off len, ev s x = .sl id k off len) ∨ (∃ (α : Type) (_ : Inhabited α) (k : Nat) (enc : α → List RV) (xs : List α), ev s x = .r (.rd k enc xs)) ∨ ev s x = .mt ∨ ev s x = .lit (.slice none 0 0))
    (hh : ev s h = .lit (.int kh 0)) (hm : ev s m = .lit (.int km 0)) (hK : K .mt H) : OpA P o s H K :=
  OpA.plain (fun γ a w hs hsr => by
    have hv := ev_rel hsr x
    have hh' := ev_rel hsr h
    have hm' := ev_rel hsr m
    rw [hh] at hh'
    rw [hm] at hm'
    have hh' := hh'.lit_inv
    have hm' := hm'.lit_inv
    have hsl : ∃ A n c, a.eval x = .slice A n c := by
      rcases hx with ⟨id, k, off, len, hx⟩ | ⟨α, _, k, enc, xs, hx⟩ | hx | hx <;> rw [hx] at hv <;> generalize a.eval x = u at hv
      · cases hv <;> exact ⟨_, _, _, rfl⟩
      · cases hv with
        | r hv => cases hv <;> exact ⟨_, _, _, rfl⟩
      · cases hv; exact ⟨_, _, _, rfl⟩
      · exact ⟨_, _, _, hv.lit_inv⟩
    obtain ⟨A, n, c, hu⟩ := hsl
    have hb : (Instr.sliceBounds true n c none (some (.int kh 0)) (some (.int km 0))).run P w = .ok (0, 0, 0) w := by
      simp [Instr.sliceBounds, run_sliceBound]
    have := sliceAt_slice ht he hz (A := A) hb
    refine ⟨.slice A 0 0, ?_, .mt A⟩
    simp only [execOp, ho, hu, hh', hm', Option.map_none, Option.map_some]
    rw [Sem.run_bind, this]
    rfl) hK

theorem OpA.indexStr {P : Program} {o : Oper} {s : Slots} {H : Heap} {K : AV → Heap → Prop} {t : TypeId} {x ix : Operand} {y : TyInfo} {b : ByteArray} {n : Int} {kk : IntKind}
    (ho : o.op = .index t x ix) (ht : tyOf P t = some y) (he : y.str = true) (hx : ev s x = .lit (.string b)) (hi : ev s ix = .lit (.int kk n)) (h0 : 0 ≤ n) (h1 : n < b.size)
    (hK : K (.lit (.int .u8 ((b.get! n.toNat).toNat : Int))) H) : OpA P o s H K :=
  OpA.plain (fun γ a w hs hsr => by
    have hv := ev_rel hsr x
    have hn := ev_rel hsr ix
    rw [hx] at hv
    rw [hi] at hn
    have hv := hv.lit_inv
    have hn := hn.lit_inv
    have hu := run_str' ht w he
    have hlt : n.toNat < b.size := by omega
    refine ⟨_, ?_, .r (.lit _)⟩
    have hg : b[n.toNat]? = some (b.get! n.toNat) := by
      rw [getElem?_pos b n.toNat hlt]
      congr 1
      show b.data[n.toNat] = b.data[n.toNat]!
      rw [getElem!_pos b.data n.toNat hlt]
    simp [execOp, ho, hv, hn, Instr.index, asIntOf, hu, h0, hg]) hK
end Go.Ae
end
