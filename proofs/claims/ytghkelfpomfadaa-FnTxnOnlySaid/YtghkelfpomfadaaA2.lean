/- The abstract logic, second part: tellings of worlds out of one another, and triples of code. No condition beyond what each lemma states. -/
import Derived.Test.YtghkelfpomfadaaA1
import Derived.Lib.Overlaps
import Derived.Laws.StructEq
set_option linter.unusedVariables false
set_option linter.unusedSimpArgs false
section
namespace Go.Ae
set_option linter.unusedVariables false
set_option linter.unusedSimpArgs false

/-! ### Slices whose room is known; rows written over rows -/
def splice (L : List (List AV)) (p : Nat) (S : List (List AV)) : List (List AV) := L.take p ++ S ++ L.drop (p + S.length)

theorem Flat.of_brel {γ : Gh} {w : World} {b : Blk} {vs : Array Value} (h : BRel γ w b vs) : Flat γ w b.k b.L (vs.toList.take (b.L.length * b.k)) := by
  refine ⟨by rw [List.length_take, Array.length_toList]; exact Nat.min_eq_left h.sz, h.len, fun i row f v u h1 h2 h3 => ?_⟩
  rw [List.getElem?_take] at h3
  split at h3
  · rw [Array.getElem?_toList] at h3; exact h.rel i row f v u h1 h2 h3
  · cases h3

theorem Flat.take {γ : Gh} {w : World} {k : Nat} {rows : List (List AV)} {us : List Value} (h : Flat γ w k rows us) (p : Nat) : Flat γ w k (rows.take p) (us.take (p * k)) := by
  refine ⟨?_, fun i row hi => ?_, fun i row f v u hi hf hu => ?_⟩
  · rw [List.length_take, List.length_take, h.sz]
    rcases Nat.le_total p rows.length with h1 | h1
    · have := Nat.mul_le_mul_right k h1
      rw [Nat.min_eq_left this, Nat.min_eq_left h1]
    · have := Nat.mul_le_mul_right k h1
      rw [Nat.min_eq_right this, Nat.min_eq_right h1]
  · rw [List.getElem?_take] at hi
    split at hi
    · exact h.len i row hi
    · cases hi
  · rw [List.getElem?_take] at hi hu
    split at hi
    · split at hu
      · exact h.rel i row f v u hi hf hu
      · cases hu
    · cases hi

theorem Flat.drop {γ : Gh} {w : World} {k : Nat} {rows : List (List AV)} {us : List Value} (h : Flat γ w k rows us) (p : Nat) : Flat γ w k (rows.drop p) (us.drop (p * k)) := by
  refine ⟨by rw [List.length_drop, List.length_drop, h.sz, Nat.sub_mul], fun i row hi => ?_, fun i row f v u hi hf hu => ?_⟩
  · rw [List.getElem?_drop] at hi; exact h.len _ row hi
  · rw [List.getElem?_drop] at hi hu
    refine h.rel (p + i) row f v u hi hf ?_
    rw [Nat.add_mul, Nat.add_assoc]
    exact hu

/-- Rows stored over a block's rows. -/
theorem Sat.rows {P : Program} {γ : Gh} {w : World} {H : Heap} (hs : Sat γ w H) {id x p : Nat} {b : Blk} (hb : H.at id = some b) (hx : γ.ρ id = some x) {S : List (List AV)} {news : List Value}
    (hf : Flat γ w b.k S news) (hone : ∀ row ∈ S, row.all AV.one = true) (hp : p + S.length ≤ b.L.length) :
    ∃ w', (storeCells ⟨x, p * b.k, none⟩ news).run P w = .ok () w' ∧ Sat γ w' (H.put id (.raw b.k (splice b.L p S))) ∧ Evo H.length γ H w γ (H.put id (.raw b.k (splice b.L p S))) w' ∧
      ∀ v u, Rel γ w v u → Rel γ w' v u := by
  have h1 := hs.blk id b hb
  rw [hx] at h1
  obtain ⟨vs, t, h2, hm, h3⟩ := h1
  have hsz : p * b.k + 0 + news.length ≤ vs.size := by
    have e1 := h3.sz
    have e2 := Nat.mul_le_mul_right b.k hp
    rw [Nat.add_mul] at e2
    rw [hf.sz]
    omega
  have hstore := run_storeCells_at P x (p * b.k) t news 0 vs w h2 hsz (flat_one hf hone)
  simp only [Nat.add_zero] at hstore
  generalize hw' : w.setRow x (vs.toList.take (p * b.k) ++ news ++ vs.toList.drop (p * b.k + news.length)).toArray = w' at hstore
  obtain ⟨k1, k2⟩ := setRow_kept w x (vs.toList.take (p * b.k) ++ news ++ vs.toList.drop (p * b.k + news.length)).toArray
  rw [hw'] at k1 k2
  have hheap : w'.heap[x]? = some (.cells (vs.toList.take (p * b.k) ++ news ++ vs.toList.drop (p * b.k + news.length)).toArray t (0, 0)) := by
    rw [← hw']; exact setRow_heap w x _ _ _ _ h2
  have hRx : ∀ y, γ.R y → w'.heap[y]? = w.heap[y]? := fun y hy => k1 y fun e => (hs.rd y hy).2 ⟨id, b, hb, e ▸ hx⟩
  have hmono : ∀ v u, Rel γ w v u → Rel γ w' v u := fun v u h => h.mono (Nat.le_refl _) (fun _ _ => ⟨rfl, rfl⟩) (fun _ h => h) hRx
  have hold := Flat.of_brel h3
  have hall : Flat γ w b.k (splice b.L p S) (vs.toList.take (p * b.k) ++ news ++ (vs.toList.take (b.L.length * b.k)).drop ((p + S.length) * b.k)) := by
    refine Flat.append (Flat.append ?_ hf) (hold.drop _)
    have := hold.take p
    rwa [List.take_take, Nat.min_eq_left (Nat.mul_le_mul_right _ (by omega))] at this
  have hlist : vs.toList.take (p * b.k) ++ news ++ vs.toList.drop (p * b.k + news.length) =
      (vs.toList.take (p * b.k) ++ news ++ (vs.toList.take (b.L.length * b.k)).drop ((p + S.length) * b.k)) ++ vs.toList.drop (b.L.length * b.k) := by
    rw [List.append_assoc _ _ (vs.toList.drop (b.L.length * b.k))]
    congr 1
    have e1 : p * b.k + news.length = (p + S.length) * b.k := by rw [hf.sz, Nat.add_mul]
    rw [e1]
    have e2 : (p + S.length) * b.k ≤ b.L.length * b.k := Nat.mul_le_mul_right _ hp
    have e3 : vs.toList = vs.toList.take (b.L.length * b.k) ++ vs.toList.drop (b.L.length * b.k) := (List.take_append_drop _ _).symm
    have e4 : (vs.toList.take (b.L.length * b.k)).length = b.L.length * b.k := hold.sz
    conv => lhs; rw [e3]
    rw [List.drop_append_of_le_length (by rw [e4]; exact e2)]
  have hput := hs.put (w' := w') (b' := .raw b.k (splice b.L p S)) hb hx k1 k2
    ⟨_, t, hheap, by rw [← hm]; simp only [List.size_toArray, List.length_append, List.length_take, List.length_drop, Array.length_toList]; omega, by
      rw [hlist]
      exact (hall.mono (w' := w') (γ' := γ) (Nat.le_refl _) (fun _ _ => ⟨rfl, rfl⟩) (fun _ h => h) hRx).brel (b := .raw b.k (splice b.L p S)) rfl rfl _⟩ (by rw [← hw']; rfl) (by rw [← hw']; rfl) (by rw [← hw']; rfl)
  exact ⟨w', hstore, hput.1, hput.2, hmono⟩

/-- The same, where rows may come behind the last one that is known. -/
theorem Sat.rowsUp {P : Program} {γ : Gh} {w : World} {H : Heap} (hs : Sat γ w H) {id x p : Nat} {b : Blk} (hb : H.at id = some b) (hx : γ.ρ id = some x) {S : List (List AV)} {news : List Value}
    (hf : Flat γ w b.k S news) (hone : ∀ row ∈ S, row.all AV.one = true) (hp : p ≤ b.L.length) (hroom : (p + S.length) * b.k ≤ γ.m id) :
    ∃ w', (storeCells ⟨x, p * b.k, none⟩ news).run P w = .ok () w' ∧ Sat γ w' (H.put id (.raw b.k (splice b.L p S))) ∧ Evo H.length γ H w γ (H.put id (.raw b.k (splice b.L p S))) w' ∧
      ∀ v u, Rel γ w v u → Rel γ w' v u := by
  have h1 := hs.blk id b hb
  rw [hx] at h1
  obtain ⟨vs, t, h2, hm, h3⟩ := h1
  have hsz : p * b.k + 0 + news.length ≤ vs.size := by
    rw [Nat.add_mul, ← hm] at hroom
    rw [hf.sz]
    omega
  have hstore := run_storeCells_at P x (p * b.k) t news 0 vs w h2 hsz (flat_one hf hone)
  simp only [Nat.add_zero] at hstore
  generalize hw' : w.setRow x (vs.toList.take (p * b.k) ++ news ++ vs.toList.drop (p * b.k + news.length)).toArray = w' at hstore
  obtain ⟨k1, k2⟩ := setRow_kept w x (vs.toList.take (p * b.k) ++ news ++ vs.toList.drop (p * b.k + news.length)).toArray
  rw [hw'] at k1 k2
  have hheap : w'.heap[x]? = some (.cells (vs.toList.take (p * b.k) ++ news ++ vs.toList.drop (p * b.k + news.length)).toArray t (0, 0)) := by
    rw [← hw']; exact setRow_heap w x _ _ _ _ h2
  have hRx : ∀ y, γ.R y → w'.heap[y]? = w.heap[y]? := fun y hy => k1 y fun e => (hs.rd y hy).2 ⟨id, b, hb, e ▸ hx⟩
  have hmono : ∀ v u, Rel γ w v u → Rel γ w' v u := fun v u h => h.mono (Nat.le_refl _) (fun _ _ => ⟨rfl, rfl⟩) (fun _ h => h) hRx
  have hold := Flat.of_brel h3
  have hall : Flat γ w b.k (splice b.L p S) (vs.toList.take (p * b.k) ++ news ++ (vs.toList.take (b.L.length * b.k)).drop ((p + S.length) * b.k)) := by
    refine Flat.append (Flat.append ?_ hf) (hold.drop _)
    have := hold.take p
    rwa [List.take_take, Nat.min_eq_left (Nat.mul_le_mul_right _ (by omega))] at this
  have e1 : p * b.k + news.length = (p + S.length) * b.k := by rw [hf.sz, Nat.add_mul]
  have hlist : ∃ rest, vs.toList.take (p * b.k) ++ news ++ vs.toList.drop (p * b.k + news.length) =
      (vs.toList.take (p * b.k) ++ news ++ (vs.toList.take (b.L.length * b.k)).drop ((p + S.length) * b.k)) ++ rest := by
    rcases Nat.lt_or_ge b.L.length (p + S.length) with hc | hc
    · refine ⟨vs.toList.drop (p * b.k + news.length), ?_⟩
      have e4 : (vs.toList.take (b.L.length * b.k)).drop ((p + S.length) * b.k) = [] := by
        rw [List.drop_eq_nil_iff, hold.sz]
        exact Nat.mul_le_mul_right _ (by omega)
      rw [e4, List.append_nil]
    · refine ⟨vs.toList.drop (b.L.length * b.k), ?_⟩
      rw [List.append_assoc _ _ (vs.toList.drop (b.L.length * b.k))]
      congr 1
      rw [e1]
      have e2 : (p + S.length) * b.k ≤ b.L.length * b.k := Nat.mul_le_mul_right _ hc
      have e3 : vs.toList = vs.toList.take (b.L.length * b.k) ++ vs.toList.drop (b.L.length * b.k) := (List.take_append_drop _ _).symm
      have e4 : (vs.toList.take (b.L.length * b.k)).length = b.L.length * b.k := hold.sz
      conv => lhs; rw [e3]
      rw [List.drop_append_of_le_length (by rw [e4]; exact e2)]
  obtain ⟨rest, hlist⟩ := hlist
  have hput := hs.put (w' := w') (b' := .raw b.k (splice b.L p S)) hb hx k1 k2
    ⟨_, t, hheap, by rw [← hm]; simp only [List.size_toArray, List.length_append, List.length_take, List.length_drop, Array.length_toList]; omega, by
      rw [hlist]
      exact (hall.mono (w' := w') (γ' := γ) (Nat.le_refl _) (fun _ _ => ⟨rfl, rfl⟩) (fun _ h => h) hRx).brel (b := .raw b.k (splice b.L p S)) rfl rfl _⟩ (by rw [← hw']; rfl) (by rw [← hw']; rfl) (by rw [← hw']; rfl)
  exact ⟨w', hstore, hput.1, hput.2, hmono⟩

theorem nilBin_run {P : Program} (A : Option Addr) (n c : Nat) (t e : TypeId) (x z : Operand) (w : World) (hd : P.underlying t = some (.slice e)) :
    (do eqGuard .eql t x z (.slice A n c) (.slice none 0 0); binOp .eql t (.slice A n c) (.slice none 0 0) : Sem Value).run P w = .ok (.bool A.isNone) w ∧
    (do eqGuard .neq t x z (.slice A n c) (.slice none 0 0); binOp .neq t (.slice A n c) (.slice none 0 0) : Sem Value).run P w = .ok (.bool !A.isNone) w := by
  have he : (Op.equal t (.slice A n c) (.slice none 0 0)).run P w = .ok A.isNone w := by
    show (Op.equalIn 10000 t (.slice A n c) (.slice none 0 0)).run P w = _
    unfold Op.equalIn
    cases A <;> simp [underlying, hd]
  have g : ∀ op, (eqGuard op t x z (.slice A n c) (.slice none 0 0)).run P w = .ok () w := fun op => by unfold eqGuard; split <;> rfl
  constructor
  · rw [Sem.run_bind, g, Result.andThen_ok]
    show (do pure (.bool (← Op.equal t (.slice A n c) (.slice none 0 0))) : Sem Value).run P w = _
    rw [Sem.run_bind, he]
    rfl
  · rw [Sem.run_bind, g, Result.andThen_ok]
    show (do pure (.bool (!(← Op.equal t (.slice A n c) (.slice none 0 0)))) : Sem Value).run P w = _
    rw [Sem.run_bind, he]
    rfl

theorem tyOf_slice {P : Program} {t e : TypeId} {y : TyInfo} (h : tyOf P t = some y) (he : y.elem = some e) : P.underlying t = some (.slice e) := by
  obtain ⟨i, d, z, h1, h2, h3, rfl⟩ := tyOf_spec h
  simp only [mkTy] at he
  cases d <;> simp at he
  rw [h2, he]

/-- Comparing a slice with nil: nobody knows, but a slice that is not empty is not nil. -/
theorem OpA.nilSl {P : Program} {o : Oper} {s : Slots} {H : Heap} {K : AV → Heap → Prop} {op : BinOp} {t e : TypeId} {x y : Operand} {z : TypeId} {yt : TyInfo} {n : Nat}
    (ho : o.op = .binOp op t x y z) (hop : op = .eql ∨ op = .neq) (ht : tyOf P t = some yt) (he : yt.elem = some e)
    (hx : (∃ id k off, ev s x = .sl id k off n) ∨ (∃ id k off c, ev s x = .slc id k off n c) ∨ (∃ (α : Type) (_ : Inhabited α) (k : Nat) (enc : α → List RV) (xs : List α), ev s x = .r (.rd k enc xs) ∧ xs.length = n) ∨ (ev s x = .mt ∧ n = 0) ∨ (ev s x = .lit (.slice none 0 0) ∧ n = 0))
    (hy : ev s y = .lit (.slice none 0 0)) (hK : ∀ b : Bool, (0 < n → b = false) → K (.lit (.bool (if op = .eql then b else !b))) H) : OpA P o s H K := by
  intro γ a w hs hsr next Q hn
  have h1 := ev_rel hsr x
  have h2 := ev_rel hsr y
  rw [hy] at h2
  have h2 := h2.lit_inv
  have hsl : ∃ A c, a.eval x = .slice A n c ∧ (0 < n → A.isNone = false) := by
    generalize hu : a.eval x = u at h1
    rcases hx with ⟨id, k, off, hx⟩ | ⟨id, k, off, c, hx⟩ | ⟨α, inst, k, enc, xs, hx, rfl⟩ | ⟨hx, rfl⟩ | ⟨hx, rfl⟩ <;> rw [hx] at h1
    · cases h1 with
      | sl _ _ _ _ xx c _ _ _ _ => exact ⟨_, c, rfl, fun _ => rfl⟩
      | slz _ _ _ A _ => exact ⟨A, 0, rfl, fun h => absurd h (Nat.lt_irrefl _)⟩
    · cases h1 with
      | slc _ _ _ _ xx c _ _ _ _ => exact ⟨_, _, rfl, fun _ => rfl⟩
    · cases h1 with
      | r h =>
        cases h with
        | rd0 _ _ A c => exact ⟨A, c, rfl, fun h => absurd h (Nat.lt_irrefl _)⟩
        | rd _ _ _ b o c u _ _ _ _ _ => exact ⟨_, c, rfl, fun _ => rfl⟩
    · cases h1 with
      | mt A => exact ⟨A, 0, rfl, fun h => absurd h (Nat.lt_irrefl _)⟩
    · exact ⟨none, 0, h1.lit_inv, fun h => absurd h (Nat.lt_irrefl _)⟩
  obtain ⟨A, c, hA, hA0⟩ := hsl
  have hrun : (execOp a.eval o).run P w = .ok (.value (.bool (if op = .eql then A.isNone else !A.isNone))) w := by
    have hd := tyOf_slice ht he
    rcases hop with rfl | rfl
    · have := (nilBin_run (P := P) A n c t e x y w hd).1
      simp only [execOp, ho, hA, h2]
      rw [Sem.run_bind, this]
      rfl
    · have := (nilBin_run (P := P) A n c t e x y w hd).2
      simp only [execOp, ho, hA, h2]
      rw [Sem.run_bind, this]
      rfl
  unfold Oper.wp
  rw [hrun]
  exact hn γ _ _ H w (hK A.isNone hA0) (Nat.le_refl _) (.refl _ _ _ _) hs (.r (.lit _))

/-! ### Structs of plain cells, compared -/
def kindOf (P : Program) (t : TypeId) : Option Nat := match P.underlying t with
  | some (.int _) => some 0
  | some .bool => some 1
  | some .string => some 2
  | _ => none

def kindsOf (P : Program) : Nat → List Field → Option (List Nat)
  | _, [] => some []
  | i, f :: fs => match kindOf P f.type, kindsOf P (i + 1) fs with
    | some k, some ks => if f.offset = i ∧ (f.name == "_") = false then some (k :: ks) else none
    | _, _ => none

def flatKinds (P : Program) (t : TypeId) : Option (List Nat) := match P.underlying t with
  | some (.struct fs) => if P.stoodInHeld t = false ∧ P.eqGuardType P.depth t = false then kindsOf P 0 fs.toList else none
  | _ => none

def litEq : Nat → AV → AV → Option Bool
  | 0, .r (.lit (.int k a)), .r (.lit (.int k' b)) => if k = k' then some (a == b) else none
  | 1, .r (.lit (.bool a)), .r (.lit (.bool b)) => some (a == b)
  | 2, .r (.lit (.string a)), .r (.lit (.string b)) => some (a.toList == b.toList)
  | _, _, _ => none

def aggEq : List Nat → List AV → List AV → Option Bool
  | [], [], [] => some true
  | k :: ks, c :: cs, d :: ds => match litEq k c d, aggEq ks cs ds with
    | some x, some y => some (x && y)
    | _, _ => none
  | _, _, _ => none

theorem litEq_run {P : Program} {f : Field} {k i : Nat} {c d : AV} {r : Bool} {γ : Gh} {w : World} {xs ys : Array Value} {u v : Value} {n : Nat} (hk : kindOf P f.type = some k) (hi : f.offset = i) (hx : xs[i]? = some u) (hy : ys[i]? = some v)
    (hu : Rel γ w c u) (hv : Rel γ w d v) (he : litEq k c d = some r) :
    (part f.type xs f.offset).run P w = .ok u w ∧ (part f.type ys f.offset).run P w = .ok v w ∧ (Op.equalIn (n + 1) f.type u v).run P w = .ok r w := by
  have hagg : (isAgg f.type).run P w = .ok false w := by
    unfold kindOf at hk
    simp only [isAgg, underlying, Sem.run_bind, run_program, Result.andThen_ok]
    split at hk <;> first | (rename_i h; rw [h]; rfl) | cases hk
  have hp : ∀ (zs : Array Value) (z : Value), zs[i]? = some z → (part f.type zs f.offset).run P w = .ok z w := by
    intro zs z hz
    subst hi
    simp [part, hagg, hz]
  refine ⟨hp xs u hx, hp ys v hy, ?_⟩
  unfold litEq at he
  unfold kindOf at hk
  split at he
  · rename_i k1 a k2 b
    split at he
    · rename_i hkk
      subst hkk
      simp only [Option.some.injEq] at he
      rw [hu.lit_inv, hv.lit_inv, ← he]
      split at hk <;> first | (simp at hk; done) | skip
      rename_i kk hd
      unfold Op.equalIn
      simp [underlying, hd]
    · cases he
  · rename_i a b
    simp only [Option.some.injEq] at he
    rw [hu.lit_inv, hv.lit_inv, ← he]
    split at hk <;> first | (simp at hk; done) | skip
    rename_i hd
    unfold Op.equalIn
    simp [underlying, hd]
  · rename_i a b
    simp only [Option.some.injEq] at he
    rw [hu.lit_inv, hv.lit_inv, ← he]
    split at hk <;> first | (simp at hk; done) | skip
    rename_i hd
    unfold Op.equalIn
    simp [underlying, hd, beq_toListBytes]
  · cases he
end Go.Ae
end
section
namespace Go.Ae
set_option linter.unusedVariables false
set_option linter.unusedSimpArgs false

theorem aggEq_fields {P : Program} {γ : Gh} {w : World} {xs ys : Array Value} {n : Nat} : ∀ (fs : List Field) (i : Nat) (ks : List Nat) (cs ds : List AV) (r : Bool), kindsOf P i fs = some ks → aggEq ks cs ds = some r →
    (∀ (j : Nat) (c : AV), cs[j]? = some c → ∃ u, xs[i + j]? = some u ∧ Rel γ w c u) → (∀ (j : Nat) (c : AV), ds[j]? = some c → ∃ u, ys[i + j]? = some u ∧ Rel γ w c u) →
    (Op.eqFields (n + 1) xs ys fs).run P w = .ok r w
  | [], i, ks, cs, ds, r, hk, he, hx, hy => by
    simp only [kindsOf, Option.some.injEq] at hk
    subst hk
    cases cs <;> cases ds <;> simp [aggEq] at he
    subst he
    simp [Op.eqFields]
  | f :: fs, i, ks, cs, ds, r, hk, he, hx, hy => by
    simp only [kindsOf] at hk
    split at hk
    · rename_i k ks' h1 h2
      split at hk
      · rename_i hoff
        simp only [Option.some.injEq] at hk
        subst hk
        cases cs with
        | nil => simp [aggEq] at he
        | cons c cs =>
          cases ds with
          | nil => simp [aggEq] at he
          | cons d ds =>
            simp only [aggEq] at he
            split at he
            · rename_i x y hx1 hy1
              simp only [Option.some.injEq] at he
              obtain ⟨u, hu1, hu2⟩ := hx 0 c rfl
              obtain ⟨v, hv1, hv2⟩ := hy 0 d rfl
              obtain ⟨g1, g2, g3⟩ := litEq_run (n := n) h1 hoff.1 hu1 hv1 hu2 hv2 hx1
              have ih := aggEq_fields (n := n) fs (i + 1) ks' cs ds y h2 hy1 (fun j c hc => by have := hx (j + 1) c hc; rwa [← Nat.add_assoc, Nat.add_right_comm] at this)
                (fun j c hc => by have := hy (j + 1) c hc; rwa [← Nat.add_assoc, Nat.add_right_comm] at this)
              have hn : f.name ≠ "_" := by simpa using hoff.2
              simp only [Op.eqFields, if_pos hn, Sem.run_bind, g1, g2, g3, Result.andThen_ok]
              subst he
              cases x
              · simp
              · simpa using ih
            · cases he
      · cases hk
    · cases hk

theorem aggBin_run {P : Program} {γ : Gh} {w : World} {cs ds : List AV} {xs ys : Array Value} {t : TypeId} {ks : List Nat} {r : Bool} (hk : flatKinds P t = some ks) (he : aggEq ks cs ds = some r)
    (hx : Rel γ w (.agg cs) (.agg xs)) (hy : Rel γ w (.agg ds) (.agg ys)) (x z : Operand) :
    (do eqGuard .eql t x z (.agg xs) (.agg ys); binOp .eql t (.agg xs) (.agg ys) : Sem Value).run P w = .ok (.bool r) w ∧
    (do eqGuard .neq t x z (.agg xs) (.agg ys); binOp .neq t (.agg xs) (.agg ys) : Sem Value).run P w = .ok (.bool !r) w := by
  unfold flatKinds at hk
  split at hk
  · rename_i fs hfs
    split at hk
    · rename_i hc
      have hget : ∀ {cs : List AV} {xs : Array Value}, Rel γ w (.agg cs) (.agg xs) → ∀ (j : Nat) (c : AV), cs[j]? = some c → ∃ u, xs[0 + j]? = some u ∧ Rel γ w c u := by
        intro cs xs h j c hc
        cases h with
        | agg _ _ hl hr =>
          have hj : j < xs.size := by rw [← hl]; exact (List.getElem?_eq_some_iff.1 hc).1
          rw [Nat.zero_add]
          exact ⟨xs[j], Array.getElem?_eq_getElem hj, hr j c _ hc (Array.getElem?_eq_getElem hj)⟩
      have hff : P.fieldsOf t = fs := by simp [Program.fieldsOf, hfs]
      have hq : (Op.equal t (.agg xs) (.agg ys)).run P w = .ok r w := by
        show (Op.equalIn (9999 + 1) t (.agg xs) (.agg ys)).run P w = _
        rw [run_equalIn_struct (P := P) w 9999 t xs ys (by rw [hff]; exact hfs) hc.1, hff]
        exact aggEq_fields (n := 9998) fs.toList 0 ks cs ds r hk he (hget hx) (hget hy)
      have g : ∀ op, (eqGuard op t x z (.agg xs) (.agg ys)).run P w = .ok () w := fun op => by
        unfold eqGuard
        cases op <;> simp [hc.2]
      constructor
      · rw [Sem.run_bind, g, Result.andThen_ok]
        show (do pure (.bool (← Op.equal t (.agg xs) (.agg ys))) : Sem Value).run P w = _
        rw [Sem.run_bind, hq]
        rfl
      · rw [Sem.run_bind, g, Result.andThen_ok]
        show (do pure (.bool (!(← Op.equal t (.agg xs) (.agg ys)))) : Sem Value).run P w = _
        rw [Sem.run_bind, hq]
        rfl
    · cases hk
  · cases hk

theorem OpA.aggEq {P : Program} {o : Oper} {s : Slots} {H : Heap} {K : AV → Heap → Prop} {op : BinOp} {t : TypeId} {x y : Operand} {z : TypeId} {cs ds : List AV} {ks : List Nat} {r : Bool}
    (ho : o.op = .binOp op t x y z) (hop : op = .eql ∨ op = .neq) (hx : ev s x = .agg cs) (hy : ev s y = .agg ds) (hk : flatKinds P t = some ks) (he : aggEq ks cs ds = some r)
    (hK : K (.lit (.bool (if op = .eql then r else !r))) H) : OpA P o s H K :=
  OpA.plain (fun γ a w hs hsr => by
    have h1 := ev_rel hsr x
    have h2 := ev_rel hsr y
    rw [hx] at h1
    rw [hy] at h2
    generalize hu : a.eval x = u at h1
    generalize hv : a.eval y = v at h2
    have h1' := h1
    have h2' := h2
    cases h1 with
    | agg _ xs _ _ =>
      cases h2 with
      | agg _ ys _ _ =>
        have := aggBin_run hk he h1' h2' x y
        rcases hop with rfl | rfl
        · refine ⟨_, ?_, .r (.lit _)⟩
          simp only [execOp, ho, hu, hv]
          rw [Sem.run_bind, this.1]
          rfl
        · refine ⟨_, ?_, .r (.lit _)⟩
          simp only [execOp, ho, hu, hv]
          rw [Sem.run_bind, this.2]
          rfl) hK

/-! ### cap, slices of slices whose room is known -/
theorem OpA.cap {P : Program} {o : Oper} {s : Slots} {H : Heap} {K : AV → Heap → Prop} {c : Call} {x : Operand} {t e : TypeId} {y : TyInfo} {n : Nat}
    (ho : o.op = .call c) (hc : c.callee = .builtin .cap) (ha : c.args = #[x]) (ht0 : c.argTypes[0]? = some t) (ht : tyOf P t = some y) (he : y.elem = some e)
    (hx : (∃ id k off len, ev s x = .slc id k off len n) ∨ (ev s x = .mt ∧ n = 0)) (hK : K (.lit (.int .i64 n)) H) : OpA P o s H K :=
  OpA.plain (fun γ a w hs hsr => by
    have h := ev_rel hsr x
    have hd := tyOf_slice ht he
    refine ⟨.int .i64 n, ?_, .r (.lit _)⟩
    have : ∃ A l, a.eval x = .slice A l n := by
      generalize hu : a.eval x = u at h
      rcases hx with ⟨id, k, off, len, hx⟩ | ⟨hx, rfl⟩ <;> rw [hx] at h <;> cases h <;> exact ⟨_, _, rfl⟩
    obtain ⟨A, l, hA⟩ := this
    simp [execOp, ho, resolve, hc, ha, invoke, builtin, Builtin.cap_, ht0, hA, underlying, hd, goInt]) hK

/-- A slice whose room is known, cut: its room is known. -/
theorem OpA.sliceSlc {P : Program} {o : Oper} {s : Slots} {H : Heap} {K : AV → Heap → Prop} {t e : TypeId} {x : Operand} {lo hi : Option Operand} {y z : TyInfo} {id k off len cap : Nat} {l h : Int}
    (ho : o.op = .slice t x lo hi none) (ht : tyOf P t = some y) (he : y.elem = some e) (hz : tyOf P e = some z) (hk : z.size = k) (hx : ev s x = .slc id k off len cap) (hlo : bnd s lo 0 = some l) (hhi : bnd s hi len = some h)
    (h0 : 0 ≤ l) (h1 : l ≤ h) (h2 : h ≤ cap) (h3 : l < cap) (hK : K (.slc id k (off + l.toNat) (h.toNat - l.toNat) (cap - l.toNat)) H) : OpA P o s H K :=
  OpA.plain (fun γ a w hs hsr => by
    have hv := ev_rel hsr x
    rw [hx] at hv
    generalize hu : a.eval x = u at hv
    subst hk
    cases hv with
    | slc _ _ _ _ xx _ hid hxx hc hcm =>
      have hb := sliceAt_slice ht he hz (A := some ⟨xx, off * z.size, none⟩) (run_sliceBounds (P := P) (isS := true) (len := len) (cap := cap) hsr hlo hhi h0 h1 h2)
      refine ⟨_, by simp only [execOp, ho, hu]; rw [Sem.run_bind, Option.map_none, hb]; rfl, ?_⟩
      have hcl : ¬ cap = l.toNat := by omega
      rw [if_neg hcl]
      simp only [Option.map_some, add_plain', ← Nat.add_mul]
      refine .slc _ _ _ _ xx _ hid hxx (by omega) ?_
      have : (off + l.toNat) * z.size + (cap - l.toNat) * z.size = off * z.size + cap * z.size := by
        rw [← Nat.add_mul, ← Nat.add_mul]
        congr 1
        omega
      omega) hK

/-- 's[l:h:m]'. -/
theorem OpA.slice3 {P : Program} {o : Oper} {s : Slots} {H : Heap} {K : AV → Heap → Prop} {t e : TypeId} {x hi mx : Operand} {lo : Option Operand} {y z : TyInfo} {id k off len : Nat} {kh km : IntKind} {l h m : Int}
    (ho : o.op = .slice t x lo (some hi) (some mx)) (ht : tyOf P t = some y) (he : y.elem = some e) (hz : tyOf P e = some z) (hk : z.size = k) (hx : slAs (ev s x) id k off len)
    (hlo : bnd s lo 0 = some l) (hhi : ev s hi = .lit (.int kh h)) (hmx : ev s mx = .lit (.int km m)) (h0 : 0 ≤ l) (h1 : l ≤ h) (h2 : h ≤ m) (h3 : m ≤ len) (hK : K (.sl id k (off + l.toNat) (h.toNat - l.toNat)) H) : OpA P o s H K :=
  OpA.plain (fun γ a w hs hsr => by
    have hv := hx.rel (ev_rel hsr x)
    generalize hu : a.eval x = u at hv
    subst hk
    cases hv with
    | slz _ _ _ A hid =>
      have hl : l = 0 := by omega
      have hh : h = 0 := by omega
      have hm : m = 0 := by omega
      subst hl hh hm
      have hb := sliceAt_slice ht he hz (A := A) (len := 0) (cap := 0) (run_sliceBounds3 (P := P) (len := 0) (cap := 0) hsr hlo hhi hmx (by omega) (by omega) (by omega) (by omega))
      refine ⟨_, by simp only [execOp, ho, hu]; rw [Sem.run_bind, Option.map_some, Option.map_some, hb]; rfl, ?_⟩
      simpa using Rel.slz (γ := γ) (w := w) id z.size (off + 0) A hid
    | sl _ _ _ _ xx c hid hxx hc hcm =>
      have hb := sliceAt_slice ht he hz (A := some ⟨xx, off * z.size, none⟩) (run_sliceBounds3 (P := P) (len := len) (cap := c) hsr hlo hhi hmx h0 h1 h2 (by omega))
      refine ⟨_, by simp only [execOp, ho, hu]; rw [Sem.run_bind, Option.map_some, Option.map_some, hb]; rfl, ?_⟩
      by_cases hcl : m.toNat = l.toNat
      · have e1 : h.toNat - l.toNat = 0 := by omega
        have e2 : m.toNat - l.toNat = 0 := by omega
        rw [e1, e2]
        exact .slz _ _ _ _ hid
      · rw [if_neg hcl]
        simp only [Option.map_some, add_plain', ← Nat.add_mul]
        refine .sl _ _ _ _ xx _ hid hxx (by omega) ?_
        have e1 : (off + l.toNat) * z.size + (m.toNat - l.toNat) * z.size = off * z.size + m.toNat * z.size := by
          rw [← Nat.add_mul, ← Nat.add_mul]
          congr 1
          omega
        have e2 := Nat.mul_le_mul_right z.size (show m.toNat ≤ c by omega)
        omega) hK

theorem OpA.lenSlc {P : Program} {o : Oper} {s : Slots} {H : Heap} {K : AV → Heap → Prop} {c : Call} {x : Operand} {t e : TypeId} {y : TyInfo} {id k off len cap : Nat}
    (ho : o.op = .call c) (hc : c.callee = .builtin .len) (ha : c.args = #[x]) (ht0 : c.argTypes[0]? = some t) (ht : tyOf P t = some y) (he : y.elem = some e)
    (hx : ev s x = .slc id k off len cap) (hK : K (.lit (.int .i64 len)) H) : OpA P o s H K :=
  OpA.plain (fun γ a w hs hsr => by
    have h := ev_rel hsr x
    have hd := tyOf_slice ht he
    refine ⟨.int .i64 len, ?_, .r (.lit _)⟩
    rw [hx] at h
    generalize hu : a.eval x = u at h
    cases h with
    | slc _ _ _ _ xx _ _ _ _ _ => simp [execOp, ho, resolve, hc, ha, invoke, builtin, Builtin.len_, ht0, hu, underlying, hd, goInt]) hK

/-! ### copy, clear -/
theorem splice_same (L : List (List AV)) (p : Nat) : splice L p [] = L := by simp [splice]

/-- Where an own slice lies. -/
theorem slAs.lies {γ : Gh} {w : World} {H : Heap} (hs : Sat γ w H) {v : AV} {id k off len : Nat} {u : Value} (h : slAs v id k off len) (hr : Rel γ w v u) :
    (∃ A, u = .slice A 0 0 ∧ len = 0) ∨ ∃ x c, u = .slice (some ⟨x, off * k, none⟩) len c ∧ γ.ρ id = some x ∧ len ≤ c := by
  have h1 := h.rel hr
  cases h1 with
  | slz _ _ _ A _ => exact .inl ⟨A, rfl, rfl⟩
  | sl _ _ _ _ x c _ hx hc _ => exact .inr ⟨x, c, rfl, hx, hc⟩

theorem firstCells_len {P : Program} (k m n n' c : Nat) (A : Option Addr) (w : World) : (Builtin.firstCells k m (.slice A n c)).run P w = (Builtin.firstCells k m (.slice A n' c)).run P w := by
  cases A <;> rfl

/-- The first m rows of a slice, read. -/
theorem slice_flat_take {γ : Gh} {w : World} {H : Heap} (hs : Sat γ w H) {P : Program} {v : AV} {u : Value} {rows : List (List AV)} (hr : rowsOf H v = some rows) (h : Rel γ w v u) {k : Nat}
    (hk : ∀ row ∈ rows, row.length = k) {m : Nat} (hm : m ≤ rows.length) :
    ∃ A cap us, u = .slice A rows.length cap ∧ Flat γ w k (rows.take m) us ∧ ∀ n, (Builtin.firstCells k m u).run P (w.drewN n) = .ok us.toArray (w.drewN n) := by
  obtain ⟨A, cap, us, hu, hfl, hfirst⟩ := slice_flat hs (P := P) hr h hk
  have go : ∀ v' , rowsOf H v' = some (rows.take m) → Rel γ w v' (.slice A m cap) → ∃ A cap us, u = .slice A rows.length cap ∧ Flat γ w k (rows.take m) us ∧ ∀ n, (Builtin.firstCells k m u).run P (w.drewN n) = .ok us.toArray (w.drewN n) := by
    intro v' h1 h2
    obtain ⟨A', cap', us', hu', hfl', hfirst'⟩ := slice_flat hs (P := P) h1 h2 (fun row hrow => hk row (List.mem_of_mem_take hrow))
    have hl : (rows.take m).length = m := by rw [List.length_take]; omega
    rw [hl] at hu' hfirst'
    exact ⟨A, cap, us', hu, hfl', fun n => by rw [hu, firstCells_len k m _ m]; exact hfirst' n⟩
  have sl : ∀ id k' off len, rowsOf0 H (.sl id k' off len) = some rows → Rel γ w (.sl id k' off len) u → rowsOf H (.sl id k' off m) = some (rows.take m) ∧ Rel γ w (.sl id k' off m) (.slice A m cap) := by
    intro id k' off len h1 h2
    simp only [rowsOf0] at h1
    split at h1
    · rename_i b hb
      split at h1
      · rename_i hc
        simp only [Option.some.injEq] at h1
        have hl : rows.length = len := by rw [← h1]; simp; omega
        constructor
        · simp only [rowsOf, rowsOf0, hb]
          rw [if_pos ⟨hc.1, by omega⟩, ← h1, List.take_take, Nat.min_eq_left (by omega)]
        · rw [hu] at h2
          rw [hl] at h2 hm
          cases h2 with
          | slz _ _ _ _ hid =>
            have : m = 0 := by omega
            subst this
            exact .slz _ _ _ _ hid
          | sl _ _ _ _ x c hid hx hlc hcm => exact .sl _ _ _ _ x _ hid hx (by omega) hcm
      · cases h1
    · cases h1
  have hr0 := hr
  unfold rowsOf at hr
  split at hr
  · obtain ⟨h1, h2⟩ := sl _ _ _ _ hr h.slc_sl
    exact go _ h1 h2
  · unfold rowsOf0 at hr
    split at hr
    · rename_i α inst k' enc xs _
      simp only [Option.some.injEq] at hr
      refine go (.r (.rd k' enc (xs.take m))) (by simp [rowsOf, rowsOf0, ← hr]) ?_
      have hxl : xs.length = rows.length := by rw [← hr]; simp
      rw [hu, ← hxl] at h
      cases h with
      | r h =>
        cases hx : xs.take m with
        | nil =>
          have : m = 0 := by
            have h9 := congrArg List.length hx
            rw [List.length_take, List.length_nil] at h9
            omega
          subst this
          exact .r (.rd0 _ _ _ _)
        | cons y ys =>
          rw [← hx]
          generalize hn : xs.length = n0 at h
          cases h with
          | rd0 _ _ _ _ => simp at hx
          | rd _ _ _ b o c u hR hc hlen hcell hrel =>
            have hml : (xs.take m).length = m := by rw [List.length_take]; omega
            have := RRel.rd (R := γ.R) (w := w) k' enc (xs.take m) b o cap u hR (by omega) (fun i x hx => by
              rw [List.getElem?_take] at hx; split at hx
              · exact hlen i x hx
              · cases hx) (fun i x f v hx hf => by
              rw [List.getElem?_take] at hx; split at hx
              · exact hcell i x f v hx hf
              · cases hx) (fun i x f v hx hf => by
              rw [List.getElem?_take] at hx; split at hx
              · exact hrel i x f v hx hf
              · cases hx)
            rw [hml] at this
            exact .r this
    · simp only [Option.some.injEq] at hr
      rw [← hr] at hm hu
      have hm0 : m = 0 := by simpa using hm
      subst hm0
      refine go (.lit (.slice none 0 0)) (by simp [rowsOf, rowsOf0]) ?_
      have := h.lit_inv
      rw [hu] at this
      simp only [List.length_nil, Value.slice.injEq, true_and] at this
      obtain ⟨rfl, rfl⟩ := this
      exact .r (.lit _)
    · simp only [Option.some.injEq] at hr
      rw [← hr] at hm hu
      have hm0 : m = 0 := by simpa using hm
      subst hm0
      refine go .mt (by simp [rowsOf, rowsOf0]) ?_
      rw [hu] at h
      cases h with
      | mt A => exact .mt A
    · rename_i id k' off len _
      obtain ⟨h1, h2⟩ := sl id k' off len (by simp only [rowsOf0]; exact hr) h
      exact go _ h1 h2
    · cases hr

/-- 'copy'. -/
theorem OpA.copy {P : Program} {o : Oper} {s : Slots} {H : Heap} {K : AV → Heap → Prop} {c : Call} {x v : Operand} {t e : TypeId} {ts : Array TypeId} {y z : TyInfo} {id k off len : Nat} {b : Blk} {S : List (List AV)}
    (ho : o.op = .call c) (hc : c.callee = .builtin .copy) (ha : c.args = #[x, v]) (ht0 : c.argTypes[0]? = some t) (ht : tyOf P t = some y) (he : y.elem = some e) (hz : tyOf P e = some z) (hk : z.size = k)
    (hx : slAs (ev s x) id k off len) (hb : H.at id = some b) (hbk : b.k = k) (hle : off + len ≤ b.L.length) (hS : rowsOf H (ev s v) = some S) (hSk : ∀ row ∈ S, row.length = k) (hone : ∀ row ∈ S, row.all AV.one = true)
    (hK : K (.lit (.int .i64 (min S.length len : Nat))) (H.put id (.raw k (splice b.L off (S.take len))))) : OpA P o s H K := by
  intro γ a w hs hsr next Q hn
  have h1 := ev_rel hsr x
  have h2 := ev_rel hsr v
  have hu := run_slice' ht w he
  have hlen : (S.take len).length = min S.length len := by rw [List.length_take, Nat.min_comm]
  obtain ⟨A, cap, us, hv, hfl, hfirst⟩ := slice_flat_take hs (P := P) hS h2 hSk (m := min S.length len) (Nat.min_le_left _ _)
  have htake : S.take (min S.length len) = S.take len := by
    rcases Nat.le_total S.length len with h | h
    · rw [Nat.min_eq_left h, List.take_length, List.take_of_length_le h]
    · rw [Nat.min_eq_right h]
  rw [htake] at hfl
  have hfirst0 : (Builtin.firstCells z.size (min S.length len) (a.eval v)).run P w = .ok us.toArray w := by rw [hk]; exact hfirst 0
  have wrap : ∀ {w'}, (Builtin.copy_ c.argTypes o.type #[a.eval x, a.eval v]).run P w = .ok (.int .i64 (min S.length len : Nat)) w' → next (a.put o.dst (.int .i64 (min S.length len : Nat))) w' → o.wp P a w next Q := by
    intro w' g1 g2
    unfold Oper.wp
    have : (execOp a.eval o).run P w = .ok (.value (.int .i64 (min S.length len : Nat))) w' := by
      simp only [execOp, ho, resolve, hc, Sem.run_bind, Sem.run_pure, Result.andThen_ok, invoke, builtin, ha]
      simp only [List.map_toArray, List.map_cons, List.map_nil, g1, Result.andThen_ok]
    rw [this]
    exact g2
  have hus : us.length = (min S.length len) * k := by rw [hfl.sz, hlen]
  rcases hx.lies hs h1 with ⟨A', hA, rfl⟩ | ⟨xx, cc, hA, hxx, hcc⟩
  · have hmin : min S.length 0 = 0 := Nat.min_zero _
    have hus0 : us = [] := List.length_eq_zero_iff.1 (by rw [hus, hmin, Nat.zero_mul])
    subst hus0
    have hS0 : S.take 0 = [] := rfl
    rw [hS0, splice_same] at hK
    refine wrap (w' := w) ?_ ?_
    · rw [hmin] at hfirst0 ⊢
      rw [hv] at hfirst0
      cases A' with
      | none => simp [Builtin.copy_, ht0, hu, hA, hv, Builtin.lenOf, run_sizeOf' hz, hfirst0, goInt]
      | some q => simp [Builtin.copy_, ht0, hu, hA, hv, Builtin.lenOf, run_sizeOf' hz, hfirst0, goInt, storeCells_nil]
    · -- the heap told anew, unchanged
      have hsat : Sat γ w (H.put id (.raw k b.L)) ∧ Evo H.length γ H w γ (H.put id (.raw k b.L)) w := by
        have hbo := hs.blk id b hb
        cases hid : γ.ρ id with
        | some q =>
          rw [hid] at hbo
          obtain ⟨vs, tt, g1, g2, g3⟩ := hbo
          exact hs.put hb hid (fun _ _ => rfl) rfl ⟨vs, tt, g1, g2, ⟨fun i row hi => by rw [← hbk]; exact g3.len i row hi, by rw [← hbk]; exact g3.sz, fun i row f v u a1 a2 a3 => g3.rel i row f v u a1 a2 (by rw [hbk]; exact a3)⟩⟩ rfl rfl rfl
        | none =>
          rw [hid] at hbo
          have hat : ∀ j b', (H.put id (.raw k b.L)).at j = some b' → ∃ b0, H.at j = some b0 ∧ (j ≠ id → b0 = b') ∧ (j = id → b' = .raw k b.L) := by
            intro j b' hj
            by_cases hji : j = id
            · subst hji
              rw [at_put (at_lt hb)] at hj
              cases hj
              exact ⟨b, hb, fun h => absurd rfl h, fun _ => rfl⟩
            · rw [at_put_other hji] at hj
              exact ⟨b', hj, fun _ => rfl, fun h => absurd h hji⟩
          refine ⟨⟨by simp [Heap.put, hs.n], fun j b' hj => ?_, fun j j' b1 b2 x h1 h2 h3 h4 => ?_, fun x hx => ⟨(hs.rd x hx).1, fun ⟨j, b', h1, h2⟩ => ?_⟩⟩, ⟨fun _ _ => ⟨rfl, rfl⟩, fun _ h => h, fun _ h => .inl h, fun x ⟨j, b', h1, h2⟩ => ?_, rfl, rfl, rfl, Nat.le_refl _, fun _ _ _ => rfl⟩⟩
          · obtain ⟨b0, g1, g2, g3⟩ := hat j b' hj
            by_cases hji : j = id
            · rw [g3 hji, hji, hid]; exact hbo
            · rw [← g2 hji]; exact hs.blk j b0 g1
          · obtain ⟨c1, g1, _, _⟩ := hat j b1 h1
            obtain ⟨c2, g2, _, _⟩ := hat j' b2 h2
            exact hs.inj j j' c1 c2 x g1 g2 h3 h4
          · obtain ⟨c1, g1, _, _⟩ := hat j b' h1
            exact (hs.rd x hx).2 ⟨j, c1, g1, h2⟩
          · obtain ⟨c1, g1, _, _⟩ := hat j b' h1
            exact .inl ⟨j, c1, g1, h2⟩
      exact hn γ _ _ _ w hK (by simp [Heap.put]) hsat.2 hsat.1 (.r (.lit _))
  · subst hbk
    obtain ⟨w', g1, g2, g3, g4⟩ := hs.rows (P := P) (p := off) hb hxx hfl (fun row hrow => hone row (List.mem_of_mem_take hrow)) (by rw [hlen]; have := Nat.min_le_right S.length len; omega)
    refine wrap (w' := w') ?_ (hn γ _ _ _ w' hK (by simp [Heap.put]) g3 g2 (.r (.lit _)))
    rw [hv] at hfirst0
    have hmm : S.length.min len = min S.length len := rfl
    simp [Builtin.copy_, ht0, hu, hA, hv, Builtin.lenOf, run_sizeOf' hz, hmm, hfirst0, goInt, g1]
theorem slAs.lies2 {γ : Gh} {w : World} {H : Heap} (hs : Sat γ w H) {v : AV} {id k off len : Nat} {u : Value} (h : slAs v id k off len) (hr : Rel γ w v u) :
    (∃ A, u = .slice A 0 0 ∧ len = 0) ∨ ∃ x c, u = .slice (some ⟨x, off * k, none⟩) len c ∧ γ.ρ id = some x ∧ len ≤ c ∧ off * k + c * k ≤ γ.m id := by
  rcases h with rfl | ⟨c, rfl⟩
  · cases hr with
    | slz _ _ _ A _ => exact .inl ⟨A, rfl, rfl⟩
    | sl _ _ _ _ x c _ hx hl hm => exact .inr ⟨x, c, rfl, hx, hl, hm⟩
  · cases hr with
    | slc _ _ _ _ x _ _ hx hl hm => exact .inr ⟨x, _, rfl, hx, hl, hm⟩
/-- How many rows, and the first m of them. -/
def numV : AV → Option Nat
  | .sl _ _ _ n => some n
  | .slc _ _ _ n _ => some n
  | @AV.r (@RV.rd _ _ _ _ xs) => some xs.length
  | .mt => some 0
  | .r (.lit (.slice none 0 0)) => some 0
  | _ => none
def truncV (m : Nat) : AV → AV
  | .sl id k off _ => .sl id k off m
  | .slc id k off _ _ => .sl id k off m
  | @AV.r (@RV.rd α _ k enc xs) => .r (.rd k enc (xs.take m))
  | v => v
theorem trunc_rel {γ : Gh} {w : World} {v : AV} {u : Value} {n : Nat} (hn : numV v = some n) (h : Rel γ w v u) : ∃ A cap, u = .slice A n cap ∧ ∀ m, m ≤ n → Rel γ w (truncV m v) (.slice A m cap) := by
  unfold numV at hn
  split at hn
  · cases hn
    cases h with
    | slz id k off A hid => exact ⟨_, _, rfl, fun m hm => by
      obtain rfl : m = 0 := by omega
      exact .slz _ _ _ _ hid⟩
    | sl _ _ _ _ x c hid hx hlc hcm => exact ⟨_, _, rfl, fun m hm => .sl _ _ _ _ x _ hid hx (by omega) hcm⟩
  · cases hn
    cases h with
    | slc _ _ _ _ x c hid hx hlc hcm => exact ⟨_, _, rfl, fun m hm => .sl _ _ _ _ x _ hid hx (by omega) hcm⟩
  · rename_i α inst k' enc xs
    cases hn
    cases h with
    | r h =>
      generalize hn : xs.length = n0 at h
      cases h with
      | rd0 _ _ _ _ =>
        subst hn
        refine ⟨_, _, rfl, fun m hm => ?_⟩
        have : m = 0 := by simp at hm; omega
        subst this
        exact .r (.rd0 _ _ _ _)
      | rd _ _ _ b o c u hR hc hlen hcell hrel =>
        subst hn
        refine ⟨_, _, rfl, fun m hm => ?_⟩
        have hml : (xs.take m).length = m := by rw [List.length_take]; omega
        have := RRel.rd (R := γ.R) (w := w) k' enc (xs.take m) b o c u hR (by omega) (fun i x hx => by
          rw [List.getElem?_take] at hx; split at hx
          · exact hlen i x hx
          · cases hx) (fun i x f v hx hf => by
          rw [List.getElem?_take] at hx; split at hx
          · exact hcell i x f v hx hf
          · cases hx) (fun i x f v hx hf => by
          rw [List.getElem?_take] at hx; split at hx
          · exact hrel i x f v hx hf
          · cases hx)
        rw [hml] at this
        exact .r this
  · cases hn
    cases h with
    | mt A => exact ⟨_, _, rfl, fun m hm => by
      obtain rfl : m = 0 := by omega
      exact .mt _⟩
  · cases hn
    have h1 := h.lit_inv
    subst h1
    exact ⟨none, 0, rfl, fun m hm => by
      obtain rfl : m = 0 := by omega
      exact h⟩
  · cases hn
/-- 'copy', of which only what is copied need be known. -/
theorem OpA.copyT {P : Program} {o : Oper} {s : Slots} {H : Heap} {K : AV → Heap → Prop} {c : Call} {x v : Operand} {t e : TypeId} {ts : Array TypeId} {y z : TyInfo} {id k off len : Nat} {n : Nat} {b : Blk} {S : List (List AV)}
    (ho : o.op = .call c) (hc : c.callee = .builtin .copy) (ha : c.args = #[x, v]) (ht0 : c.argTypes[0]? = some t) (ht : tyOf P t = some y) (he : y.elem = some e) (hz : tyOf P e = some z) (hk : z.size = k)
    (hx : slAs (ev s x) id k off len) (hb : H.at id = some b) (hbk : b.k = k) (hle : off ≤ b.L.length) (hn0 : numV (ev s v) = some n) (hS : rowsOf H (truncV (min n len) (ev s v)) = some S) (hSk : ∀ row ∈ S, row.length = k) (hone : ∀ row ∈ S, row.all AV.one = true)
    (hK : K (.lit (.int .i64 (min n len : Nat))) (H.put id (.raw k (splice b.L off S)))) : OpA P o s H K := by
  intro γ a w hs hsr next Q hn
  have h1 := ev_rel hsr x
  have h2 := ev_rel hsr v
  have hu := run_slice' ht w he
  obtain ⟨A, cap, hv, htr⟩ := trunc_rel hn0 h2
  obtain ⟨A1, cap1, us, hv1, hfl, hfirst⟩ := slice_flat hs (P := P) hS (htr _ (Nat.min_le_left _ _)) hSk
  have hlen : S.length = min n len := by injection hv1 with _ h _; exact h.symm
  have hfirst0 : (Builtin.firstCells z.size (min n len) (a.eval v)).run P w = .ok us.toArray w := by
    rw [hk, hv, firstCells_len k _ n (min n len)]
    have := hfirst 0
    rw [hlen] at this
    exact this
  have wrap : ∀ {w'}, (Builtin.copy_ c.argTypes o.type #[a.eval x, a.eval v]).run P w = .ok (.int .i64 (min n len : Nat)) w' → next (a.put o.dst (.int .i64 (min n len : Nat))) w' → o.wp P a w next Q := by
    intro w' g1 g2
    unfold Oper.wp
    have : (execOp a.eval o).run P w = .ok (.value (.int .i64 (min n len : Nat))) w' := by
      simp only [execOp, ho, resolve, hc, Sem.run_bind, Sem.run_pure, Result.andThen_ok, invoke, builtin, ha]
      simp only [List.map_toArray, List.map_cons, List.map_nil, g1, Result.andThen_ok]
    rw [this]
    exact g2
  have hus : us.length = (min n len) * k := by rw [hfl.sz, hlen]
  rcases hx.lies2 hs h1 with ⟨A', hA, rfl⟩ | ⟨xx, cc, hA, hxx, hcc, hroom⟩
  · have hmin : min n 0 = 0 := Nat.min_zero _
    have hus0 : us = [] := List.length_eq_zero_iff.1 (by rw [hus, hmin, Nat.zero_mul])
    subst hus0
    have hS0 : S = [] := List.length_eq_zero_iff.1 (by rw [hlen, hmin])
    rw [hS0, splice_same] at hK
    refine wrap (w' := w) ?_ ?_
    · rw [hmin] at hfirst0 ⊢
      rw [hv] at hfirst0
      cases A' with
      | none => simp [Builtin.copy_, ht0, hu, hA, hv, Builtin.lenOf, run_sizeOf' hz, hfirst0, goInt]
      | some q => simp [Builtin.copy_, ht0, hu, hA, hv, Builtin.lenOf, run_sizeOf' hz, hfirst0, goInt, storeCells_nil]
    · -- the heap told anew, unchanged
      have hsat : Sat γ w (H.put id (.raw k b.L)) ∧ Evo H.length γ H w γ (H.put id (.raw k b.L)) w := by
        have hbo := hs.blk id b hb
        cases hid : γ.ρ id with
        | some q =>
          rw [hid] at hbo
          obtain ⟨vs, tt, g1, g2, g3⟩ := hbo
          exact hs.put hb hid (fun _ _ => rfl) rfl ⟨vs, tt, g1, g2, ⟨fun i row hi => by rw [← hbk]; exact g3.len i row hi, by rw [← hbk]; exact g3.sz, fun i row f v u a1 a2 a3 => g3.rel i row f v u a1 a2 (by rw [hbk]; exact a3)⟩⟩ rfl rfl rfl
        | none =>
          rw [hid] at hbo
          have hat : ∀ j b', (H.put id (.raw k b.L)).at j = some b' → ∃ b0, H.at j = some b0 ∧ (j ≠ id → b0 = b') ∧ (j = id → b' = .raw k b.L) := by
            intro j b' hj
            by_cases hji : j = id
            · subst hji
              rw [at_put (at_lt hb)] at hj
              cases hj
              exact ⟨b, hb, fun h => absurd rfl h, fun _ => rfl⟩
            · rw [at_put_other hji] at hj
              exact ⟨b', hj, fun _ => rfl, fun h => absurd h hji⟩
          refine ⟨⟨by simp [Heap.put, hs.n], fun j b' hj => ?_, fun j j' b1 b2 x h1 h2 h3 h4 => ?_, fun x hx => ⟨(hs.rd x hx).1, fun ⟨j, b', h1, h2⟩ => ?_⟩⟩, ⟨fun _ _ => ⟨rfl, rfl⟩, fun _ h => h, fun _ h => .inl h, fun x ⟨j, b', h1, h2⟩ => ?_, rfl, rfl, rfl, Nat.le_refl _, fun _ _ _ => rfl⟩⟩
          · obtain ⟨b0, g1, g2, g3⟩ := hat j b' hj
            by_cases hji : j = id
            · rw [g3 hji, hji, hid]; exact hbo
            · rw [← g2 hji]; exact hs.blk j b0 g1
          · obtain ⟨c1, g1, _, _⟩ := hat j b1 h1
            obtain ⟨c2, g2, _, _⟩ := hat j' b2 h2
            exact hs.inj j j' c1 c2 x g1 g2 h3 h4
          · obtain ⟨c1, g1, _, _⟩ := hat j b' h1
            exact (hs.rd x hx).2 ⟨j, c1, g1, h2⟩
          · obtain ⟨c1, g1, _, _⟩ := hat j b' h1
            exact .inl ⟨j, c1, g1, h2⟩
      exact hn γ _ _ _ w hK (by simp [Heap.put]) hsat.2 hsat.1 (.r (.lit _))
  · subst hbk
    obtain ⟨w', g1, g2, g3, g4⟩ := hs.rowsUp (P := P) (p := off) hb hxx hfl hone hle (by
      have e1 := Nat.min_le_right n len
      have := Nat.mul_le_mul_right b.k (show off + S.length ≤ off + cc by omega)
      rw [Nat.add_mul off cc] at this
      omega)
    refine wrap (w' := w') ?_ (hn γ _ _ _ w' hK (by simp [Heap.put]) g3 g2 (.r (.lit _)))
    rw [hv] at hfirst0
    have hmm : n.min len = min n len := rfl
    simp [Builtin.copy_, ht0, hu, hA, hv, Builtin.lenOf, run_sizeOf' hz, hmm, hfirst0, goInt, g1]
end Go.Ae
end
section
namespace Go.Ae
set_option linter.unusedVariables false
set_option linter.unusedSimpArgs false

theorem callExt_run {P : Program} {f : FuncId} {fn : Func} {e : Array Value → Sem Value} {args : Array Value} {w : World} {v : Value} (hf : P.funcs[f]? = some fn) (hname : (fn.name == "runtime.NumGoroutine") = false) (hb : fn.body.isNone = true)
    (hn : Extern.findNext fn = none) (he : Extern.find fn = some e) (hr : (e args).run P w = .ok v w) : (callFunc f args).run P w = .ok (.value v) w := by
  simp only [callFunc, Sem.run_bind, run_program, Result.andThen_ok, hf, hname, Bool.false_eq_true, if_false, hb, if_true, hn, he]
  show ((e args).run P w).andThen _ = _
  rw [hr]
  rfl

/-- 'slices.overlaps' at two blocks of our own. -/
theorem OpA.overlaps {P : Program} {o : Oper} {s : Slots} {H : Heap} {K : AV → Heap → Prop} {c : Call} {q x v : Operand} {f : FuncId} {fn : Func} {tS tR e : TypeId} {y z : TyInfo} {id id' k off off' len len' : Nat} {b b' : Blk}
    (ho : o.op = .call c) (hc : c.callee = .value q) (hq : ev s q = .fn f []) (ha : c.args = #[x, v]) (hf : P.funcs[f]? = some fn) (hname : (fn.name == "runtime.NumGoroutine") = false) (hb : fn.body.isNone = true)
    (hn : Extern.findNext fn = none) (he : Extern.find fn = some (Extern.SlicesOverlaps.overlaps #[tS, tS] #[tR])) (ht : tyOf P tS = some y) (hel : y.elem = some e) (hz : tyOf P e = some z)
    (hx : slAs (ev s x) id k off len) (hv : slAs (ev s v) id' k off' len') (hne : id ≠ id') (hb1 : H.at id = some b) (hb2 : H.at id' = some b') (hbL : 0 < b'.L.length) (hbk : 0 < b'.k) (hl1 : 0 < len) (hl2 : 0 < len') (hK : K (.lit (.bool false)) H) : OpA P o s H K :=
  OpA.plain (fun γ a w hs hsr => by
    have h1 := ev_rel hsr x
    have h2 := ev_rel hsr v
    have h3 := ev_rel hsr q
    rw [hq] at h3
    have hu := tyOf_slice ht hel
    have hzz : ∀ w, (Go.sizeOf e).run P w = .ok z.size w := fun w => run_sizeOf' hz w
    refine ⟨.bool false, ?_, .r (.lit _)⟩
    have hr : (Extern.SlicesOverlaps.overlaps #[tS, tS] #[tR] #[a.eval x, a.eval v]).run P w = .ok (.bool false) w := by
      rcases hx.lies hs h1 with ⟨A, hA, h0⟩ | ⟨p, cc, hA, hp, hcc⟩
      · omega
      · rw [hA]
        rcases hv.lies hs h2 with ⟨B, hB, h0⟩ | ⟨p', cc', hB, hp', hcc'⟩
        · omega
        · rw [hB]
          have o1 := hs.blk id b hb1
          have o2 := hs.blk id' b' hb2
          rw [hp] at o1
          rw [hp'] at o2
          obtain ⟨vs, t, g1, g2, g3⟩ := o1
          obtain ⟨vs', t', g1', g2', g3'⟩ := o2
          have hne' : p ≠ p' := fun e => hne (hs.inj id id' b b' p hb1 hb2 hp (e ▸ hp'))
          have hsz : vs'.size ≠ 0 := by
            have := g3'.sz
            have := Nat.mul_le_mul hbL hbk
            omega
          exact Lib.run_overlaps_apart w tS tR e hu z.size hzz ⟨p, off * k, none⟩ ⟨p', off' * k, none⟩ len cc len' cc' hne' t t' vs.size vs'.size (by simp [World.shape?, g1]) (by simp [World.shape?, g1']) hsz
            (by simp [World.frozen?, g1]) (by simp [World.frozen?, g1])
    generalize hfv : a.eval q = uq at h3
    cases h3 with
    | fn _ _ vs hl _ =>
      have hvs : vs = #[] := by
        apply Array.ext'
        have : vs.size = 0 := by simpa using hl.symm
        simpa using this
      subst hvs
      have := callExt_run (args := #[a.eval x, a.eval v]) hf hname hb hn he hr
      simp [execOp, ho, resolve, hc, hfv, Deferred.ofValue, invoke, ha, this]) hK
end Go.Ae
end
section
namespace Go.Ae
set_option linter.unusedVariables false
set_option linter.unusedSimpArgs false

theorem zero_flat {P : Program} {e : TypeId} {z : TyInfo} (hz : tyOf P e = some z) (hzs : z.zero.length = z.size) (hz0 : z.size ≠ 0) (γ : Gh) (w : World) (n : Nat) :
    ∃ zv : Value, (∀ w, (zeroValue e).run P w = .ok zv w) ∧ Flat γ w z.size (List.replicate n (z.zero.map AV.lit)) (Builtin.zeroCells zv.cells n).toList := by
  obtain ⟨i, d', zv, a1, a2, a3, a4⟩ := tyOf_spec hz
  have h2 : zv.cells.toList = z.zero := by rw [a4]; rfl
  have hzc : zv.cells.size = z.size := by rw [← Array.length_toList, h2, hzs]
  refine ⟨zv, fun w => by simp [zeroValue, typeInfo, a1, a3], by simp [Builtin.zeroCells, hzc], fun i row h => ?_, fun i row f v u h3 h4 h5 => ?_⟩
  · rw [List.getElem?_replicate] at h
    split at h
    · cases h; simp [hzs]
    · cases h
  · rw [List.getElem?_replicate] at h3
    split at h3
    · cases h3
      have hf' : f < z.size := by have := (List.getElem?_eq_some_iff.1 h4).1; simpa [hzs] using this
      rw [Array.getElem?_toList] at h5
      have h5' : ((Array.range (n * z.size)).map (zv.cells[· % zv.cells.size]!))[i * z.size + f]? = some u := by
        rw [← h5]
        simp [Builtin.zeroCells, hzc]
      obtain ⟨g1, g2⟩ := zero_cells hzc hz0 _ u h5'
      rw [Nat.mul_comm, Nat.mul_add_mod, Nat.mod_eq_of_lt hf'] at g2
      rw [List.getElem?_map, ← h2, Array.getElem?_toList, g2] at h4
      simp only [Option.map_some, Option.some.injEq] at h4
      subst h4
      exact .r (.lit u)
    · cases h3

/-- 'clear' of a slice that is not empty. -/
theorem OpA.clear {P : Program} {o : Oper} {s : Slots} {H : Heap} {K : AV → Heap → Prop} {c : Call} {x : Operand} {t e : TypeId} {y z : TyInfo} {id k off len : Nat} {b : Blk}
    (ho : o.op = .call c) (hc : c.callee = .builtin .clear) (ha : c.args = #[x]) (ht0 : c.argTypes[0]? = some t) (ht : tyOf P t = some y) (he : y.elem = some e) (hz : tyOf P e = some z) (hk : z.size = k)
    (hzs : z.zero.length = z.size) (hz0 : z.size ≠ 0) (hone : (z.zero.map AV.lit).all AV.one = true)
    (hx : slAs (ev s x) id k off len) (hl : 0 < len) (hb : H.at id = some b) (hbk : b.k = k) (hle : off + len ≤ b.L.length)
    (hK : K .any (H.put id (.raw k (splice b.L off (List.replicate len (z.zero.map AV.lit)))))) : OpA P o s H K := by
  intro γ a w hs hsr next Q hn
  have h1 := ev_rel hsr x
  have hu := tyOf_slice ht he
  obtain ⟨zv, hzv, hfl⟩ := zero_flat hz hzs hz0 γ w len
  rcases hx.lies hs h1 with ⟨A', hA, h0⟩ | ⟨xx, cc, hA, hxx, hcc⟩
  · omega
  · subst hbk
    rw [hk] at hfl
    obtain ⟨w', g1, g2, g3, g4⟩ := hs.rows (P := P) (p := off) hb hxx hfl (fun row hrow => by rw [List.eq_of_mem_replicate hrow]; exact hone) (by rw [List.length_replicate]; exact hle)
    have hrun : (execOp a.eval o).run P w = .ok (.value (.tuple #[])) w' := by
      cases hlen : len with
      | zero => omega
      | succ m =>
        rw [hlen] at hA g1
        simp [execOp, ho, resolve, hc, ha, invoke, builtin, Builtin.clear_, ht0, hA, run_underlying hu, hzv, g1]
    unfold Oper.wp
    rw [hrun]
    exact hn γ _ _ _ w' hK (by simp [Heap.put]) g3 g2 (.any _)

/-- 'append' onto a slice whose room is known, where there is room. -/
theorem OpA.appendIn {P : Program} {o : Oper} {s : Slots} {H : Heap} {K : AV → Heap → Prop} {c : Call} {x v : Operand} {t t' e e' : TypeId} {y y' z : TyInfo} {id k off len cap : Nat} {b : Blk} {S : List (List AV)}
    (ho : o.op = .call c) (hc : c.callee = .builtin .append) (ha : c.args = #[x, v]) (hat : c.argTypes = #[t, t']) (ht : tyOf P t = some y) (he : y.elem = some e) (hz : tyOf P e = some z)
    (ht' : tyOf P t' = some y') (he' : y'.elem = some e') (hk : z.size = k) (hx : ev s x = .slc id k off len cap) (hb : H.at id = some b) (hbk : b.k = k) (hS : rowsOf H (ev s v) = some S) (hSk : ∀ row ∈ S, row.length = k)
    (hone : ∀ row ∈ S, row.all AV.one = true) (hroom : len + S.length ≤ cap) (hle : off + len ≤ b.L.length)
    (hK : K (.slc id k off (len + S.length) cap) (H.put id (.raw k (splice b.L (off + len) S)))) : OpA P o s H K := by
  intro γ a w hs hsr next Q hnx
  have hxr := ev_rel hsr x
  have hv := ev_rel hsr v
  rw [hx] at hxr
  obtain ⟨A', cap', news, hveq, hfl, hfirst⟩ := slice_flat hs (P := P) hS hv hSk
  have hlen : ∀ w, (Builtin.lenOf (a.eval v)).run P w = .ok S.length w := fun w => by rw [hveq]; rfl
  generalize hu : a.eval x = u at hxr
  cases hxr with
  | slc _ _ _ _ xx _ hid hxx hc1 hc2 =>
    subst hbk
    obtain ⟨w', g1, g2, g3, g4⟩ := hs.rowsUp (P := P) (p := off + len) hb hxx hfl hone hle (by
      have := Nat.mul_le_mul_right b.k (show off + len + S.length ≤ off + cap by omega)
      rw [Nat.add_mul off cap] at this
      omega)
    have hin := run_append_in (ty := o.type) (w := w) ht he hz ht' he' (base := some ⟨xx, off * b.k, none⟩) (sLen := len) (sCap := cap) hlen (by have := hfirst 0; rw [← hk] at this; exact this) hroom (w' := w') (by
      show (storeCells ((⟨xx, off * b.k, none⟩ : Addr).add (len * z.size)) news).run P w = .ok () w'
      rw [add_plain', hk, ← Nat.add_mul]
      exact g1)
    unfold Oper.wp
    have : (execOp a.eval o).run P w = .ok (.value (.slice (some ⟨xx, off * b.k, none⟩) (len + S.length) cap)) w' := by
      simp only [execOp, ho, resolve, hc, hat, Sem.run_bind, Sem.run_pure, Result.andThen_ok, invoke, builtin, ha]
      simp only [List.map_toArray, List.map_cons, List.map_nil, hu, hin, Result.andThen_ok]
    rw [this]
    refine hnx γ _ _ _ w' hK (by simp [Heap.put]) g3 g2 (g4 _ _ ?_)
    exact .slc _ _ _ _ xx cap hid hxx hroom hc2

/-- 'append' onto a slice whose room is known, where there is none: a new block. -/
theorem OpA.appendOut {P : Program} {o : Oper} {s : Slots} {H : Heap} {K : AV → Heap → Prop} {c : Call} {x v : Operand} {t t' e e' : TypeId} {y y' z : TyInfo} {id k off len cap : Nat} {R S : List (List AV)}
    (ho : o.op = .call c) (hc : c.callee = .builtin .append) (ha : c.args = #[x, v]) (hat : c.argTypes = #[t, t']) (ht : tyOf P t = some y) (he : y.elem = some e) (hz : tyOf P e = some z)
    (ht' : tyOf P t' = some y') (he' : y'.elem = some e') (hk : z.size = k) (hx : ev s x = .slc id k off len cap) (hR : rowsOf H (ev s x) = some R) (hRk : ∀ row ∈ R, row.length = k)
    (hS : rowsOf H (ev s v) = some S) (hSk : ∀ row ∈ S, row.length = k) (hroom : cap < len + S.length) (hn : len + S.length ≤ 2 ^ 31) (hby : z.bytes ≤ 4096) (hzs : z.zero.length = z.size)
    (hK : K (.sl H.length k 0 (R.length + S.length)) (H ++ [some (.raw k (R ++ S))])) : OpA P o s H K := by
  subst hk
  intro γ a w hs hsr next Q hnx
  have hxr := ev_rel hsr x
  have hv := ev_rel hsr v
  obtain ⟨A', cap', news, hveq, hfl, hfirst⟩ := slice_flat hs (P := P) hS hv hSk
  obtain ⟨A2, cap2, olds, hueq, hofl, hofirst⟩ := slice_flat hs (P := P) hR hxr hRk
  have hlen : ∀ w, (Builtin.lenOf (a.eval v)).run P w = .ok S.length w := fun w => by rw [hveq]; rfl
  have hRl : R.length = len ∧ cap2 = cap := by
    rw [hx] at hxr
    rw [hueq] at hxr
    generalize hRR : R.length = rl at hxr
    cases hxr with
    | slc _ _ _ _ xx _ hid hxx hc1 hc2 => exact ⟨rfl, rfl⟩
  obtain ⟨hRl, rfl⟩ := hRl
  have hbb : (2 * (len + S.length) + 192) * z.bytes ≤ 2 ^ 48 := by
    have h1 : 2 * (len + S.length) + 192 ≤ 2 ^ 33 := by omega
    calc _ ≤ 2 ^ 33 * 4096 := Nat.mul_le_mul h1 hby
      _ ≤ 2 ^ 48 := by decide
  obtain ⟨cc, rest, hcc, hrl, hrun⟩ := run_append_new (ty := o.type) (w := w) (base := A2) (sLen := R.length) (sCap := cap2) (olds := olds) (news := news) ht he hz ht' he' hlen
    (hofirst 1 |> fun h => by rw [hueq] at h; exact h) (hfirst 1) (by omega) (by rw [hRl]; exact hbb) (by rw [hRl]; omega) hzs
  have hall := hofl.append hfl
  have hrest : cc * z.size ≤ (olds ++ news ++ rest).length := by
    rw [List.length_append, hall.sz, hrl, ← Nat.add_mul, List.length_append]
    exact Nat.mul_le_mul_right _ (by omega)
  obtain ⟨γ', e1, e2, e3⟩ := append_new_rel hs (e := e) hall (c := cc) (by rw [List.length_append]; omega) hrest
  unfold Oper.wp
  have : (execOp a.eval o).run P w = .ok (.value (.slice (some ⟨w.heap.size, 0, none⟩) (R.length + S.length) cc)) (w.drew.alloc (.cells (olds ++ news ++ rest).toArray e)) := by
    simp only [execOp, ho, resolve, hc, hat, Sem.run_bind, Sem.run_pure, Result.andThen_ok, invoke, builtin, ha]
    simp only [List.map_toArray, List.map_cons, List.map_nil, hueq, hrun, Result.andThen_ok]
  rw [this]
  rw [List.length_append] at e3
  exact hnx γ' _ _ _ _ hK (by simp) e1 e2 e3
end Go.Ae
end
section
namespace Go.Ae
set_option linter.unusedVariables false
set_option linter.unusedSimpArgs false

theorem tyOf_int {P : Program} {t : TypeId} {y : TyInfo} {k : IntKind} (h : tyOf P t = some y) (he : y.int = some k) : P.underlying t = some (.int k) := by
  obtain ⟨i, d, z, h1, h2, h3, rfl⟩ := tyOf_spec h
  simp only [mkTy] at he
  cases d <;> simp at he
  rw [h2, he]

/-- 'append(s, make(S, n)...)' where there is no room. -/
theorem run_append_newZ {P : Program} {t t' ty e : TypeId} {y y' z : TyInfo} (ht : tyOf P t = some y) (he : y.elem = some e) (hz : tyOf P e = some z) (ht' : tyOf P t' = some y') {kt : IntKind} (hint : y'.int = some kt)
    {base : Option Addr} {sLen sCap : Nat} {l : Int} {w : World} {kl : IntKind} (h0 : 0 < l) {olds : List Value} (hold : (Builtin.firstCells z.size sLen (.slice base sLen sCap)).run P w.drew = .ok olds.toArray w.drew)
    (hc : sCap < sLen + l.toNat) (hb : (2 * (sLen + l.toNat) + 192) * z.bytes ≤ 2 ^ 48) (hs : sLen + l.toNat ≤ 2 ^ 40) (hzs : z.zero.length = z.size) (hz0 : z.size ≠ 0) (γ : Gh) (w0 : World) :
    ∃ c news rest, Flat γ w0 z.size (List.replicate l.toNat (z.zero.map AV.lit)) news ∧ sLen + l.toNat ≤ c ∧ rest.length = (c - (sLen + l.toNat)) * z.size ∧ (Builtin.append_ #[t, t'] ty #[.slice base sLen sCap, .int kl l]).run P w =
      .ok (.slice (some ⟨w.heap.size, 0, none⟩) (sLen + l.toNat) c) (w.drew.alloc (.cells (olds ++ news ++ rest).toArray e)) := by
  have hu := run_slice' ht w he
  have hu' := tyOf_int ht' hint
  have hsz := run_sizeOf' hz w
  obtain ⟨zv, hzv, hfl⟩ := zero_flat hz hzs hz0 γ w0 l.toNat
  obtain ⟨i, d', z', a1, a2, a3, a4⟩ := tyOf_spec hz
  have hbi : i.bytes = z.bytes := by rw [a4]; rfl
  have hzz : zv = z' := by
    have := hzv w
    simp [zeroValue, typeInfo, a1, a3] at this
    exact this.symm
  subst hzz
  have hle := nextslicecap_le hc
  have hfit : ¬ (281474976710656 < Builtin.nextslicecap (sLen + l.toNat) sCap * i.bytes) := by
    rw [hbi]
    have := Nat.mul_le_mul_right z.bytes hle
    omega
  have hmax : ¬ (9223372036854775807 < ((sLen : Int) + (l.toNat : Int))) := by omega
  have hmax' : ¬ (9223372036854775807 < ((sLen : Int) + l)) := by omega
  have hmax2 : ¬ (9223372036854775807 < ((sLen : Int) + max l 0)) := by omega
  have hcut : sLen + l.toNat ≤ (Question.appendCap (sLen + l.toNat) sCap e).cut (w.tape w.drawn (.appendCap (sLen + l.toNat) sCap e)) := by
    simp only [Question.cut]
    omega
  have hwr : IntKind.i64.wrap l = l := by have := wr_id (n := l) (by omega) (by omega); exact this
  have hl0 : ¬ l < 0 := by omega
  have hlb : ¬ (281474976710656 < l * (i.bytes : Int)) := by
    rw [hbi]
    have e1 : (l.toNat : Int) = l := Int.toNat_of_nonneg (by omega)
    have e2 : l.toNat * z.bytes ≤ 2 ^ 48 := Nat.le_trans (Nat.mul_le_mul_right _ (by omega)) hb
    have e3 : ((l.toNat * z.bytes : Nat) : Int) ≤ 2 ^ 48 := by exact_mod_cast e2
    rw [Int.natCast_mul, e1] at e3
    omega
  have hnz : ¬ (l.toNat * z.size = 0) := by
    intro h
    rcases Nat.mul_eq_zero.1 h with h | h
    · omega
    · exact hz0 h
  refine ⟨_, (Builtin.zeroCells zv.cells l.toNat).toList, (Builtin.zeroCells zv.cells ((Question.appendCap (sLen + l.toNat) sCap e).cut (w.tape w.drawn (.appendCap (sLen + l.toNat) sCap e)) - (sLen + l.toNat))).toList, hfl, hcut, ?_, ?_⟩
  · rw [← hzs, a4]
    simp [Builtin.zeroCells, mkTy]
  have hnc : ¬ (sLen + l.toNat ≤ sCap) := by omega
  simp [Builtin.append_, hu, hsz, run_underlying hu', hnc, hmax, hmax', hmax2, hfit, hwr, hl0, hlb, hnz, asInt, asIntOf, typeInfo, a1, Question.forced, hold, zeroValue, a3, newRow]
  try (congr 2; apply Array.ext'; simp)
/-- 'append(s, make(S, n)...)' onto a slice whose room is known and too small. -/
theorem OpA.appendOutZ {P : Program} {o : Oper} {s : Slots} {H : Heap} {K : AV → Heap → Prop} {c : Call} {x v : Operand} {t t' e : TypeId} {y y' z : TyInfo} {kt kl : IntKind} {id k off len cap : Nat} {l : Int} {R : List (List AV)}
    (ho : o.op = .call c) (hc : c.callee = .builtin .append) (ha : c.args = #[x, v]) (hat : c.argTypes = #[t, t']) (ht : tyOf P t = some y) (he : y.elem = some e) (hz : tyOf P e = some z)
    (ht' : tyOf P t' = some y') (hint : y'.int = some kt) (hk : z.size = k) (hx : ev s x = .slc id k off len cap) (hR : rowsOf H (ev s x) = some R) (hRk : ∀ row ∈ R, row.length = k)
    (hv : ev s v = .lit (.int kl l)) (h0 : 0 < l) (hroom : cap < len + l.toNat) (hn : len + l.toNat ≤ 2 ^ 31) (hby : z.bytes ≤ 4096) (hzs : z.zero.length = z.size) (hz0 : z.size ≠ 0)
    (hK : K (.sl H.length k 0 (R.length + l.toNat)) (H ++ [some (.raw k (R ++ List.replicate l.toNat (z.zero.map AV.lit)))])) : OpA P o s H K := by
  subst hk
  intro γ a w hs hsr next Q hnx
  have hxr := ev_rel hsr x
  have hvr := ev_rel hsr v
  rw [hv] at hvr
  have hvl := hvr.lit_inv
  obtain ⟨A2, cap2, olds, hueq, hofl, hofirst⟩ := slice_flat hs (P := P) hR hxr hRk
  have hRl : R.length = len ∧ cap2 = cap := by
    rw [hx] at hxr
    rw [hueq] at hxr
    generalize hRR : R.length = rl at hxr
    cases hxr with
    | slc _ _ _ _ xx _ hid hxx hc1 hc2 => exact ⟨rfl, rfl⟩
  obtain ⟨hRl, rfl⟩ := hRl
  have hbb : (2 * (len + l.toNat) + 192) * z.bytes ≤ 2 ^ 48 := by
    have h1 : 2 * (len + l.toNat) + 192 ≤ 2 ^ 33 := by omega
    calc _ ≤ 2 ^ 33 * 4096 := Nat.mul_le_mul h1 hby
      _ ≤ 2 ^ 48 := by decide
  obtain ⟨cc, news, rest, hfl, hcc, hrl, hrun⟩ := run_append_newZ (ty := o.type) (w := w) (kl := kl) ht he hz ht' hint (base := A2) (sLen := R.length) (sCap := cap2) h0
    (hofirst 1 |> fun h => by rw [hueq] at h; exact h) (by omega) (by rw [hRl]; exact hbb) (by rw [hRl]; omega) hzs hz0 γ w
  have hall := hofl.append hfl
  have hrest : cc * z.size ≤ (olds ++ news ++ rest).length := by
    rw [List.length_append, hall.sz, hrl, ← Nat.add_mul, List.length_append, List.length_replicate]
    exact Nat.mul_le_mul_right _ (by omega)
  obtain ⟨γ', e1, e2, e3⟩ := append_new_rel hs (e := e) hall (c := cc) (by rw [List.length_append, List.length_replicate]; omega) hrest
  unfold Oper.wp
  have : (execOp a.eval o).run P w = .ok (.value (.slice (some ⟨w.heap.size, 0, none⟩) (R.length + l.toNat) cc)) (w.drew.alloc (.cells (olds ++ news ++ rest).toArray e)) := by
    simp only [execOp, ho, resolve, hc, hat, Sem.run_bind, Sem.run_pure, Result.andThen_ok, invoke, builtin, ha]
    simp only [List.map_toArray, List.map_cons, List.map_nil, hueq, hvl, hrun, Result.andThen_ok]
  rw [this]
  rw [List.length_append, List.length_replicate] at e3
  exact hnx γ' _ _ _ _ hK (by simp) e1 e2 e3
end Go.Ae
end
section
namespace Go.Ae
set_option linter.unusedVariables false
theorem OpA.plainX {P : Program} {o : Oper} {s : Slots} {H : Heap} {K : AV → Heap → Prop}
    (hop : ∀ γ a w, Sat γ w H → SRel γ w s a → ∃ v u, (execOp a.eval o).run P w = .ok (.value u) w ∧ Rel γ w v u ∧ K v H) : OpA P o s H K := by
  intro γ a w hs hr next Q hn
  obtain ⟨v, u, h1, h2, hK⟩ := hop γ a w hs hr
  unfold Oper.wp
  rw [h1]
  exact hn γ u v H w hK (Nat.le_refl _) (.refl _ _ _ _) hs h2
/-- 's[:h]' of an own list: its room is some number, at least its length. -/
theorem OpA.sliceUp {P : Program} {o : Oper} {s : Slots} {H : Heap} {K : AV → Heap → Prop} {t e : TypeId} {y z : TyInfo} {x : Operand} {hi : Option Operand} {id k off len : Nat} {h : Int}
    (ho : o.op = .slice t x none hi none) (ht : tyOf P t = some y) (he : y.elem = some e) (hz : tyOf P e = some z) (hk : z.size = k) (hx : ev s x = .sl id k off len)
    (hhi : bnd s hi len = some h) (h1 : 0 ≤ h) (h2 : h ≤ len) (hK0 : len = 0 → K (.sl id k off 0) H) (hK : 0 < len → ∀ cap, len ≤ cap → K (.slc id k off h.toNat cap) H) : OpA P o s H K :=
  OpA.plainX (fun γ a w hs hsr => by
    have hv := ev_rel hsr x
    rw [hx] at hv
    generalize hu : a.eval x = u at hv
    subst hk
    have hlo : bnd s none 0 = some 0 := rfl
    cases hv with
    | slz _ _ _ A hid =>
      simp only [Int.natCast_zero] at h2
      have hh : h = 0 := by omega
      subst hh
      have hb := sliceAt_slice ht he hz (A := A) (len := 0) (cap := 0) (run_sliceBounds (P := P) (isS := true) (cap := 0) hsr hlo hhi (by omega) (by omega) (by simp))
      rw [Option.map_none] at hb
      refine ⟨_, _, by simp only [execOp, ho, hu]; rw [Sem.run_bind, Option.map_none, hb]; rfl, ?_, hK0 rfl⟩
      simpa using Rel.slz (γ := γ) (w := w) id z.size off A hid
    | sl _ _ _ _ xx c hid hxx hc hcm =>
      have hb := sliceAt_slice ht he hz (A := some ⟨xx, off * z.size, none⟩) (run_sliceBounds (P := P) (isS := true) (cap := c) hsr hlo hhi (by omega) h1 (by omega))
      rw [Option.map_none] at hb
      by_cases hl : len = 0
      · have hh : h = 0 := by omega
        subst hh
        refine ⟨_, _, by simp only [execOp, ho, hu]; rw [Sem.run_bind, Option.map_none, hb]; rfl, ?_, hK0 hl⟩
        by_cases hcl : c = 0
        · subst hcl
          simpa using Rel.slz (γ := γ) (w := w) id z.size off _ hid
        · rw [if_neg (by simpa using hcl)]
          simp only [Option.map_some, add_plain', ← Nat.add_mul]
          simpa using Rel.sl (γ := γ) (w := w) id z.size off 0 xx c hid hxx (by omega) hcm
      · refine ⟨_, _, by simp only [execOp, ho, hu]; rw [Sem.run_bind, Option.map_none, hb]; rfl, ?_, hK (by omega) c hc⟩
        rw [if_neg (by simp only [Int.toNat_zero]; omega)]
        simp only [Option.map_some, add_plain', ← Nat.add_mul]
        simpa using Rel.slc (γ := γ) (w := w) id z.size off h.toNat xx c hid hxx (by omega) hcm)
end Go.Ae
end
section
namespace Go.Ae
set_option linter.unusedVariables false
set_option linter.unusedSimpArgs false

/-! ### One operation, reckoned -/
def loadK (y : TyInfo) (v : AV) (H : Heap) (K : AV → Heap → Prop) : Prop :=
  match v with
  | .ptr id k i f => match H.at id with
    | some (.cells l) => (l.length = k ∧ i = 0 ∧ f + y.size ≤ k ∧ (y.agg = false → f < k)) ∧ K (packV y l f) H
    | some (@Blk.rows _ _ k' enc xs) => (k' = k ∧ i < xs.length ∧ f + y.size ≤ k ∧ (y.agg = false → f < k)) ∧ K (packV y (enc (xs.getD i default)) f) H
    | some (.raw k' l) => (k' = k ∧ i < l.length ∧ f + y.size ≤ k ∧ (y.agg = false → f < k)) ∧ K (packV y (l.getD i []) f) H
    | none => False
  | @AV.rp _ _ k enc xs i f => (i < xs.length ∧ f + y.size ≤ k ∧ (y.agg = false → f < k)) ∧ K (packV y ((enc (xs.getD i default)).map AV.r) f) H
  | _ => False

def storeK (v : AV) (cs : List AV) (H : Heap) (K : AV → Heap → Prop) : Prop :=
  match v with
  | .ptr id k i f => match H.at id with
    | some (.cells l) => (l.length = k ∧ i = 0 ∧ f + cs.length ≤ k) ∧ K .any (H.put id (.cells (over l f cs)))
    | some (@Blk.rows _ _ k' enc xs) => (k' = k ∧ i < xs.length ∧ f + cs.length ≤ k) ∧ ∃ x', enc x' = over (enc (xs.getD i default)) f cs ∧ K .any (H.put id (.rows k enc (xs.set i x')))
    | some (.raw k' l) => (k' = k ∧ i < l.length ∧ f + cs.length ≤ k) ∧ K .any (H.put id (.raw k (l.set i (over (l.getD i []) f cs))))
    | none => False
  | _ => False

def lenK (y : TyInfo) (v : AV) (H : Heap) (K : AV → Heap → Prop) : Prop :=
  match v with
  | .sl _ _ _ n => y.elem.isSome = true ∧ K (.lit (.int .i64 n)) H
  | .slc _ _ _ n _ => y.elem.isSome = true ∧ K (.lit (.int .i64 n)) H
  | @AV.r (@RV.rd _ _ _ _ xs) => y.elem.isSome = true ∧ K (.lit (.int .i64 xs.length)) H
  | .mt => y.elem.isSome = true ∧ K (.lit (.int .i64 0)) H
  | .r (.lit (.slice none 0 0)) => y.elem.isSome = true ∧ K (.lit (.int .i64 0)) H
  | .r (.lit (.string b)) => y.str = true ∧ K (.lit (.int .i64 b.size)) H
  | _ => False

def addrK (k : Nat) (v : AV) (n : Int) (H : Heap) (K : AV → Heap → Prop) : Prop :=
  match v with
  | .sl id k' off len => k' = k ∧ (0 ≤ n ∧ n < len) ∧ K (.ptr id k' (off + n.toNat) 0) H
  | .slc id k' off len _ => k' = k ∧ (0 ≤ n ∧ n < len) ∧ K (.ptr id k' (off + n.toNat) 0) H
  | @AV.r (@RV.rd _ _ k' enc xs) => k' = k ∧ (0 ≤ n ∧ n < xs.length) ∧ K (.rp k' enc xs n.toNat 0) H
  | _ => False

def lenV : AV → Option Nat
  | .sl _ _ _ n => some n
  | .slc _ _ _ n _ => some n
  | @AV.r (@RV.rd _ _ _ _ xs) => some xs.length
  | .mt => some 0
  | .r (.lit (.slice none 0 0)) => some 0
  | _ => none

def nilCmpK (P : Program) (op : BinOp) (t : TypeId) (u v : AV) (H : Heap) (K : AV → Heap → Prop) : Prop :=
  match v with
  | .r (.lit (.slice none 0 0)) => match lenV u, tyOf P t with
    | some n, some y => y.elem.isSome = true ∧ (match op with
      | .eql => ∀ b : Bool, (0 < n → b = false) → K (.lit (.bool b)) H
      | .neq => ∀ b : Bool, (0 < n → b = false) → K (.lit (.bool !b)) H
      | _ => False)
    | _, _ => False
  | _ => False

def aggK (P : Program) (op : BinOp) (t : TypeId) (cs ds : List AV) (H : Heap) (K : AV → Heap → Prop) : Prop :=
  match flatKinds P t with
  | some ks => match aggEq ks cs ds with
    | some r => match op with
      | .eql => K (.lit (.bool r)) H
      | .neq => K (.lit (.bool !r)) H
      | _ => False
    | none => False
  | none => False

def binL (P : Program) (op : BinOp) (t : TypeId) (u v : AV) (H : Heap) (K : AV → Heap → Prop) : Prop :=
  match u, v with
  | .r (.lit (.int k a)), .r (.lit (.int k' b)) => intBinOk op k k' b ∧ K (.lit (intBin op k a b)) H
  | .r (.lit (.bool a)), .r (.lit (.bool b)) => P.underlying t = some .bool ∧ (match op with
    | .eql => K (.lit (.bool (a == b))) H
    | .neq => K (.lit (.bool (a != b))) H
    | _ => False)
  | .r (.lit (.string a)), .r (.lit (.string b)) => match strBin op a b with
    | some r => (op = .add → a.size + b.size ≤ 9223372036854775807) ∧ K (.lit r) H
    | none => False
  | .agg cs, .agg ds => aggK P op t cs ds H K
  | _, _ => False

def binK (P : Program) (op : BinOp) (t : TypeId) (u v : AV) (H : Heap) (K : AV → Heap → Prop) : Prop :=
  match u, v with
  | .r (.lit (.int k a)), .r (.lit (.int k' b)) => intBinOk op k k' b ∧ K (.lit (intBin op k a b)) H
  | .r (.lit (.bool a)), .r (.lit (.bool b)) => P.underlying t = some .bool ∧ (match op with
    | .eql => K (.lit (.bool (a == b))) H
    | .neq => K (.lit (.bool (a != b))) H
    | _ => False)
  | .r (.lit (.string a)), .r (.lit (.string b)) => match strBin op a b with
    | some r => (op = .add → a.size + b.size ≤ 9223372036854775807) ∧ K (.lit r) H
    | none => False
  | .agg cs, .agg ds => aggK P op t cs ds H K
  | u, v => nilCmpK P op t u v H K

theorem binL_binK {P : Program} {op : BinOp} {t : TypeId} {u v : AV} {H : Heap} {K : AV → Heap → Prop} (h : binL P op t u v H K) : binK P op t u v H K := by
  unfold binL at h
  split at h
  · exact h
  · exact h
  · exact h
  · exact h
  · exact h.elim

def unK (op : UnOp) (u : AV) (H : Heap) (K : AV → Heap → Prop) : Prop :=
  match op, u with
  | .not, .r (.lit (.bool b)) => K (.lit (.bool !b)) H
  | .neg, .r (.lit (.int k n)) => K (.lit (.int k (wr k (0 - n)))) H
  | _, _ => False

def sliceK (k : Nat) (v : AV) (s : Slots) (lo hi : Option Operand) (H : Heap) (K : AV → Heap → Prop) : Prop :=
  match v with
  | .sl id k' off len => match lo, hi with
    | none, some h => match bnd s (some h) len with
      | some h => k' = k ∧ (0 ≤ h ∧ h ≤ len) ∧ (len = 0 → K (.sl id k' off 0) H) ∧ (0 < len → ∀ cap, len ≤ cap → K (.slc id k' off h.toNat cap) H)
      | none => False
    | _, _ => match bnd s lo 0, bnd s hi len with
      | some l, some h => k' = k ∧ (0 ≤ l ∧ l ≤ h ∧ h ≤ len) ∧ K (.sl id k' (off + l.toNat) (h.toNat - l.toNat)) H
      | _, _ => False
  | .slc id k' off len cap => match lo, hi with
    | some _, none => match bnd s lo 0 with
      | some l => k' = k ∧ (0 ≤ l ∧ l ≤ len) ∧ K (.sl id k' (off + l.toNat) (len - l.toNat)) H
      | none => False
    | _, _ => match bnd s lo 0, bnd s hi len with
      | some l, some h => k' = k ∧ (0 ≤ l ∧ l ≤ h ∧ h ≤ cap ∧ l < cap) ∧ K (.slc id k' (off + l.toNat) (h.toNat - l.toNat) (cap - l.toNat)) H
      | _, _ => False
  | @AV.r (@RV.rd _ _ k' enc xs) => match bnd s lo 0, bnd s hi xs.length with
    | some l, some h => k' = k ∧ (0 ≤ l ∧ l ≤ h ∧ h ≤ xs.length) ∧ K (.r (.rd k' enc ((xs.take h.toNat).drop l.toNat))) H
    | _, _ => False
  | _ => False

def noUp (v : AV) (lo hi : Option Operand) : Prop :=
  match v, lo, hi with
  | .sl .., none, some _ => False
  | _, _, _ => True

def nilK (v : AV) (H : Heap) (K : AV → Heap → Prop) : Prop :=
  match v with
  | .ptr .. | .fn .. => K v H
  | @AV.rp _ _ _ _ _ _ _ => K v H
  | _ => False

def appendK (P : Program) (z : TyInfo) (u v : AV) (H : Heap) (K : AV → Heap → Prop) : Prop :=
  match topRows H z.size u, rowsOf H v with
  | some R, some S => (z.bytes ≤ 4096 ∧ z.zero.length = z.size) ∧ (∀ row ∈ S, row.length = z.size ∧ row.all AV.one = true) ∧ R.length + S.length ≤ 2147483648 ∧
      K (.sl H.length z.size 0 (R.length + S.length)) (dropD H u ++ [some (.raw z.size (R ++ S))])
  | _, _ => False

def elemTy (P : Program) (t : TypeId) : Option TyInfo := match tyOf P t with
  | some y => match y.elem with
    | some e => tyOf P e
    | none => none
  | none => none

def copyK (z : TyInfo) (id k off len : Nat) (v : AV) (H : Heap) (K : AV → Heap → Prop) : Prop :=
  match H.at id, numV v with
  | some b, some n => match rowsOf H (truncV (min n len) v) with
    | some S => (z.size = k ∧ b.k = k ∧ off ≤ b.L.length) ∧ (∀ row ∈ S, row.length = k ∧ row.all AV.one = true) ∧
      K (.lit (.int .i64 (min n len : Nat))) (H.put id (.raw k (splice b.L off S)))
    | none => False
  | _, _ => False

def clearK (z : TyInfo) (id k off len : Nat) (H : Heap) (K : AV → Heap → Prop) : Prop :=
  match H.at id with
  | some b => (z.size = k ∧ b.k = k ∧ off + len ≤ b.L.length) ∧ (z.zero.length = z.size ∧ z.size ≠ 0 ∧ (z.zero.map AV.lit).all AV.one = true) ∧ 0 < len ∧
      K .any (H.put id (.raw k (splice b.L off (List.replicate len (z.zero.map AV.lit)))))
  | none => False

/-- 'append' onto a slice whose room is known. -/
def appendC (z y' : TyInfo) (id k off len cap : Nat) (v : AV) (H : Heap) (K : AV → Heap → Prop) : Prop :=
  match H.at id, rowsOf H (.slc id k off len cap) with
  | some b, some R => (z.size = k ∧ b.k = k ∧ z.bytes ≤ 4096 ∧ z.zero.length = z.size ∧ z.size ≠ 0) ∧ (∀ row ∈ R, row.length = k) ∧ (match y'.int with
    | some _ => match v with
      | .r (.lit (.int _ l)) => (0 < l ∧ cap < len + l.toNat ∧ len + l.toNat ≤ 2147483648) ∧ K (.sl H.length k 0 (R.length + l.toNat)) (H ++ [some (.raw k (R ++ List.replicate l.toNat (z.zero.map AV.lit)))])
      | _ => False
    | none => match rowsOf H v with
      | some S => y'.elem.isSome = true ∧ (∀ row ∈ S, row.length = k ∧ row.all AV.one = true) ∧
        (len + S.length ≤ cap → off + len ≤ b.L.length ∧ K (.slc id k off (len + S.length) cap) (H.put id (.raw k (splice b.L (off + len) S)))) ∧
        (cap < len + S.length → len + S.length ≤ 2147483648 ∧ K (.sl H.length k 0 (R.length + S.length)) (H ++ [some (.raw k (R ++ S))]))
      | none => False)
  | _, _ => False

def capK (y : TyInfo) (v : AV) (H : Heap) (K : AV → Heap → Prop) : Prop :=
  match v with
  | .slc _ _ _ _ c => y.elem.isSome = true ∧ K (.lit (.int .i64 c)) H
  | .mt => y.elem.isSome = true ∧ K (.lit (.int .i64 0)) H
  | _ => False

def builtinK (P : Program) (b : Builtin) (args : List Operand) (ts : List TypeId) (s : Slots) (H : Heap) (K : AV → Heap → Prop) : Prop :=
  match b, args, ts with
  | .len, [x], [t] => match tyOf P t with
    | some y => lenK y (ev s x) H K
    | none => False
  | .cap, [x], [t] => match tyOf P t with
    | some y => capK y (ev s x) H K
    | none => False
  | .append, [x, v], [t, t'] => match tyOf P t, tyOf P t' with
    | some y, some y' => match y.elem with
      | some e => match tyOf P e with
        | some z => match ev s x with
          | .slc id k off len cap => appendC z y' id k off len cap (ev s v) H K
          | u => y'.elem.isSome = true ∧ appendK P z u (ev s v) H K
        | none => False
      | none => False
    | _, _ => False
  | .copy, [x, v], [t, _] => match elemTy P t with
    | some z => match ev s x with
      | .sl id k off len => copyK z id k off len (ev s v) H K
      | .slc id k off len _ => copyK z id k off len (ev s v) H K
      | _ => False
    | none => False
  | .clear, [x], [t] => match elemTy P t with
    | some z => match ev s x with
      | .sl id k off len => clearK z id k off len H K
      | .slc id k off len _ => clearK z id k off len H K
      | _ => False
    | none => False
  | .min, [x, y], _ => match ev s x, ev s y with
    | .r (.lit (.int k a)), .r (.lit (.int k' b)) => K (.lit (.int k (if b < a then b else a))) H
    | _, _ => False
  | .max, [x, y], _ => match ev s x, ev s y with
    | .r (.lit (.int k a)), .r (.lit (.int k' b)) => K (.lit (.int k (if b > a then b else a))) H
    | _, _ => False
  | .max, [x, y, z], _ => match ev s x, ev s y, ev s z with
    | .r (.lit (.int k a)), .r (.lit (.int k' b)), .r (.lit (.int k'' c)) => K (.lit (.int k (if c > (if b > a then b else a) then c else (if b > a then b else a)))) H
    | _, _, _ => False
  | _, _, _ => False

/-- Which function is 'slices.overlaps'. -/
def IsOver (P : Program) (f : FuncId) : Prop := ∃ (fn : Func) (tS tR e : TypeId) (y z : TyInfo), P.funcs[f]? = some fn ∧ (fn.name == "runtime.NumGoroutine") = false ∧ fn.body.isNone = true ∧ Extern.findNext fn = none ∧
  Extern.find fn = some (Extern.SlicesOverlaps.overlaps #[tS, tS] #[tR]) ∧ tyOf P tS = some y ∧ y.elem = some e ∧ tyOf P e = some z
def slOf : AV → Option (Nat × Nat × Nat × Nat)
  | .sl id k off len => some (id, k, off, len)
  | .slc id k off len _ => some (id, k, off, len)
  | _ => none
def overK (P : Program) (f : FuncId) (args : List AV) (H : Heap) (K : AV → Heap → Prop) : Prop := match args with
  | [u, v] => match slOf u, slOf v with
    | some (id, k, _, len), some (id', k', _, len') => match H.at id, H.at id' with
      | some b, some b' => IsOver P f ∧ k' = k ∧ id ≠ id' ∧ (0 < b'.L.length ∧ 0 < b'.k ∧ 0 < len ∧ 0 < len') ∧ K (.lit (.bool false)) H
      | _, _ => False
    | _, _ => False
  | _ => False
theorem slOf_as {v : AV} {id k off len : Nat} (h : slOf v = some (id, k, off, len)) : slAs v id k off len := by
  cases v <;> simp only [slOf, reduceCtorEq] at h
  · cases h; exact .inl rfl
  · cases h; exact .inr ⟨_, rfl⟩
theorem overK_sound {P : Program} {o : Oper} {s : Slots} {H : Heap} {K : AV → Heap → Prop} {c : Call} {q : Operand} {f : FuncId} (ho : o.op = .call c) (hc : c.callee = .value q) (hq : ev s q = .fn f [])
    (h : overK P f (c.args.toList.map (ev s)) H K) : OpA P o s H K := by
  unfold overK at h
  split at h
  · rename_i u v ha
    split at h
    · rename_i id k off len id' k' off' len' e1 e2
      split at h
      · rename_i b b' hb hb'
        obtain ⟨⟨fn, tS, tR, e, y, z, g1, g2, g3, g4, g5, g6, g7, g8⟩, rfl, hne, ⟨g9, g10, g11, g12⟩, hK⟩ := h
        rcases hl : c.args.toList with _ | ⟨x1, _ | ⟨x2, _ | ⟨x3, l⟩⟩⟩ <;> rw [hl] at ha <;> simp at ha
        obtain ⟨rfl, rfl⟩ := ha
        have hargs : c.args = #[x1, x2] := by rw [← Array.toArray_toList (xs := c.args), hl]
        exact OpA.overlaps ho hc hq hargs g1 g2 g3 g4 g5 g6 g7 g8 (slOf_as e1) (slOf_as e2) hne hb hb' g9 g10 g11 g12 hK
      · exact h.elim
    · exact h.elim
  · exact h.elim
/-- A conversion of whole numbers; of one byte in a slice of our own to a string. -/
def convI (y : TyInfo) (v : AV) (H : Heap) (K : AV → Heap → Prop) : Prop := match v with
  | .r (.lit (.int _ n)) => match y.int with
    | some k => K (.lit (.int k (wr k n))) H
    | none => False
  | _ => False
def byteK (P : Program) (ys y : TyInfo) (id k off len : Nat) (H : Heap) (K : AV → Heap → Prop) : Prop := match H.at id with
  | some (.raw k' L) => match L with
    | [[.r (.lit (.int .u8 n))]] => (k = 1 ∧ k' = 1 ∧ off = 0 ∧ len = 1) ∧ (match ys.elem with
      | some e => match tyOf P e with
        | some z => z.int = some .u8
        | none => False
      | none => False) ∧ y.str = true ∧ K (.lit (.string ⟨#[UInt8.ofNat n.toNat]⟩)) H
    | _ => False
  | _ => False
def convK (P : Program) (ys y : TyInfo) (v : AV) (H : Heap) (K : AV → Heap → Prop) : Prop := match v with
  | .sl id k off len => byteK P ys y id k off len H K
  | v => convI y v H K
def stepK (P : Program) (o : Op) (s : Slots) (H : Heap) (K : AV → Heap → Prop) : Prop :=
  match o with
  | .move x => K (ev s x) H
  | .assign x => K (ev s x) H
  | .pick c x y => match ev s c with
    | .r (.lit (.bool t)) => K (pickV t (ev s x) (ev s y)) H
    | _ => False
  | .box _ x => match cellsOf (ev s x) with
    | some l => K (.ptr H.length l.length 0 0) (H ++ [some (.cells l)])
    | none => False
  | .alloc t => match tyOf P t with
    | some y => K (.ptr H.length y.zero.length 0 0) (H ++ [some (.cells (y.zero.map AV.lit))])
    | none => False
  | .load t x => match tyOf P t with
    | some y => loadK y (ev s x) H K
    | none => False
  | .store t x v => match tyOf P t, cellsOf (ev s v) with
    | some y, some cs => (y.size = cs.length ∧ cs.all AV.one = true) ∧ storeK (ev s x) cs H K
    | _, _ => False
  | .fieldAddr t x f => match tyOf P t with
    | some y => match y.offs[f]? with
      | some (some (off, _)) => match ev s x with
        | .ptr id k i g => K (.ptr id k i (g + off)) H
        | @AV.rp _ _ k enc xs i g => K (.rp k enc xs i (g + off)) H
        | _ => False
      | _ => False
    | none => False
  | .indexAddr t x ix => match elemTy P t, ev s ix with
    | some z, .r (.lit (.int _ n)) => addrK z.size (ev s x) n H K
    | _, _ => False
  | .index t x ix => match tyOf P t, ev s x, ev s ix with
    | some y, .r (.lit (.string b)), .r (.lit (.int _ n)) => y.str = true ∧ (0 ≤ n ∧ n < b.size) ∧ K (.lit (.int .u8 ((b.get! n.toNat).toNat : Int))) H
    | _, _, _ => False
  | .binOp op t x y _ => binK P op t (ev s x) (ev s y) H K
  | .unOp op _ x => unK op (ev s x) H K
  | .convert src dst x => match tyOf P src, tyOf P dst with
    | some ys, some y => convK P ys y (ev s x) H K
    | _, _ => False
  | .nilCheck x => nilK (ev s x) H K
  | .field t x f => match fieldTy P t f, ev s x with
    | some (off, sz, ag), .agg cs => match fieldV cs off sz ag with
      | some v => K v H
      | none => False
    | _, _ => False
  | .extract x i => match ev s x with
    | .tup vs => match vs[i]? with
      | some v => K v H
      | none => False
    | _ => False
  | .makeFunc fn first caps => match fn, first.toList with
    | .func g, [] => K (.fn g (caps.toList.map (ev s))) H
    | _, _ => False
  | .build t parts => match tyOf P t with
    | some y => (y.offs.all Option.isSome = true ∧ y.offs ≠ []) ∧ (match fillA (fun i => (y.offs[i]?).join) (y.zero.map AV.lit) (parts.toList.map fun p => (p.1, ev s p.2)) with
      | some out => K (.agg out) H
      | none => False)
    | none => False
  | .buildSlice t len parts => match elemTy P t with
    | some z => (z.zero.length = z.size ∧ z.size ≠ 0 ∧ len * z.size ≤ 16777216) ∧ (match fillA (fun i => some (i * z.size, z.size)) (repL (z.zero.map AV.lit) len) (parts.toList.map fun p => (p.1, ev s p.2)) with
      | some out => K (.sl H.length z.size 0 len) (H ++ [some (.raw z.size (litRows z.size out len))])
      | none => False)
    | none => False
  | .makeSlice t l c => match elemTy P t, ev s l, ev s c with
    | some z, .r (.lit (.int .i64 n)), .r (.lit (.int .i64 m)) => (z.zero.length = z.size ∧ z.size ≠ 0 ∧ z.bytes ≤ 4096) ∧ (m = n ∧ 0 ≤ n ∧ n ≤ 2147483648) ∧
        K (.sl H.length z.size 0 n.toNat) (H ++ [some (.raw z.size (List.replicate n.toNat (z.zero.map AV.lit)))])
    | _, _, _ => False
  | .slice t x lo hi mx => match mx with
    | none => match ev s x with
      | .r (.lit (.string b)) => match tyOf P t, bnd s lo 0, bnd s hi b.size with
        | some y, some l, some h => y.str = true ∧ (0 ≤ l ∧ l ≤ h ∧ h ≤ b.size) ∧ K (.lit (.string (b.extract l.toNat h.toNat))) H
        | _, _, _ => False
      | v => match elemTy P t with
        | some z => sliceK z.size v s lo hi H K
        | none => False
    | some m => match lo, hi with
      | none, some h => match elemTy P t, ev s h, ev s m with
        | some _, .r (.lit (.int _ a)), .r (.lit (.int _ b)) => (a = 0 ∧ b = 0) ∧ (match ev s x with
          | .sl .. | .mt | .r (.lit (.slice none 0 0)) => K .mt H
          | @AV.r (@RV.rd _ _ _ _ _) => K .mt H
          | _ => False)
        | _, _, _ => False
      | some l, some h => match elemTy P t, ev s l, ev s h, ev s m with
        | some z, .r (.lit (.int _ a)), .r (.lit (.int _ b)), .r (.lit (.int _ c)) => match ev s x with
          | .sl id k off len => z.size = k ∧ (0 ≤ a ∧ a ≤ b ∧ b ≤ c ∧ c ≤ len) ∧ K (.sl id k (off + a.toNat) (b.toNat - a.toNat)) H
          | .slc id k off len _ => z.size = k ∧ (0 ≤ a ∧ a ≤ b ∧ b ≤ c ∧ c ≤ len) ∧ K (.sl id k (off + a.toNat) (b.toNat - a.toNat)) H
          | _ => False
        | _, _, _, _ => False
      | _, _ => False
  | .call c => match c.callee with
    | .value x => match ev s x with
      | .fn f caps => match hasBody P f with
        | true => CallA P f (c.args.toList.map (ev s) ++ caps) H K
        | false => match caps with
          | [] => overK P f (c.args.toList.map (ev s)) H K
          | _ => False
      | _ => False
    | .builtin b => builtinK P b c.args.toList c.argTypes.toList s H K
    | _ => False
  | _ => False

theorem elemTy_spec {P : Program} {t : TypeId} {z : TyInfo} (h : elemTy P t = some z) : ∃ y e, tyOf P t = some y ∧ y.elem = some e ∧ tyOf P e = some z := by
  unfold elemTy at h
  split at h
  · rename_i y hy
    split at h
    · rename_i e he
      exact ⟨y, e, hy, he, h⟩
    · cases h
  · cases h

theorem loadK_sound {P : Program} {o : Oper} {s : Slots} {H : Heap} {K : AV → Heap → Prop} {t : TypeId} {x : Operand} {y : TyInfo} (ho : o.op = .load t x) (ht : tyOf P t = some y) (h : loadK y (ev s x) H K) : OpA P o s H K := by
  unfold loadK at h
  split at h
  · rename_i id k i f hx
    have go : ∀ {b : Blk} {row : List AV}, H.at id = some b → b.row k i = some row → f + y.size ≤ k → (y.agg = false → f < k) → K (packV y row f) H → OpA P o s H K := by
      intro b row hb hr h1 h2 hK γ a w hs hsr
      have hlen : row.length = k := by
        unfold Blk.row at hr
        split at hr
        · rename_i hk
          subst hk
          have := hs.blk id b hb
          cases hid : γ.ρ id with
          | none =>
            rw [hid] at this
            have : b.L = [] := this
            rw [this] at hr
            cases hr
          | some xx =>
            rw [hid] at this
            obtain ⟨vs, tt, _, _, h3⟩ := this
            exact h3.len i row hr
        · cases hr
      exact OpA.load ho hx ht hb hr (by rw [hlen]; exact h1) (fun h => by rw [hlen]; exact h2 h) hK γ a w hs hsr
    split at h
    · rename_i l hb
      obtain ⟨⟨rfl, rfl, h1, h2⟩, hK⟩ := h
      exact go hb (Blk.row_cells l) h1 h2 hK
    · rename_i α inst k' enc xs hb
      obtain ⟨⟨rfl, hi, h1, h2⟩, hK⟩ := h
      exact go hb (Blk.row_rows k' enc xs hi) h1 h2 hK
    · rename_i k' l hb
      obtain ⟨⟨rfl, hi, h1, h2⟩, hK⟩ := h
      exact go hb (Blk.row_raw k' l hi) h1 h2 hK
    · exact h.elim
  · rename_i α inst k enc xs i f hx
    obtain ⟨⟨hi, h1, h2⟩, hK⟩ := h
    exact OpA.loadRd ho hx ht hi h1 h2 hK
  · exact h.elim

theorem storeK_sound {P : Program} {o : Oper} {s : Slots} {H : Heap} {K : AV → Heap → Prop} {t : TypeId} {x v : Operand} {y : TyInfo} {cs : List AV} (ho : o.op = .store t x v) (ht : tyOf P t = some y) (hc : cellsOf (ev s v) = some cs)
    (hy : y.size = cs.length) (hone : cs.all AV.one = true) (h : storeK (ev s x) cs H K) : OpA P o s H K := by
  unfold storeK at h
  split at h
  · rename_i id k i f hx
    have go : ∀ {b b' : Blk} {row : List AV}, H.at id = some b → b.row k i = some row → f + cs.length ≤ k → ((row.length = k) → b.upd b' i (over row f cs)) → K .any (H.put id b') → OpA P o s H K := by
      intro b b' row hb hr h1 hu hK γ a w hs hsr
      have hlen : row.length = k := by
        unfold Blk.row at hr
        split at hr
        · rename_i hk
          subst hk
          have := hs.blk id b hb
          cases hid : γ.ρ id with
          | none =>
            rw [hid] at this
            have : b.L = [] := this
            rw [this] at hr
            cases hr
          | some xx =>
            rw [hid] at this
            obtain ⟨vs, tt, _, _, h3⟩ := this
            exact h3.len i row hr
        · cases hr
      exact OpA.store ho hx ht hb hr hc hy (by rw [hlen]; exact h1) hone (hu hlen) hK γ a w hs hsr
    split at h
    · rename_i l hb
      obtain ⟨⟨rfl, rfl, h1⟩, hK⟩ := h
      exact go hb (Blk.row_cells l) h1 (fun _ => Blk.upd_cells l _ (over_length h1)) hK
    · rename_i α inst k' enc xs hb
      obtain ⟨⟨rfl, hi, h1⟩, x', hx', hK⟩ := h
      exact go hb (Blk.row_rows k' enc xs hi) h1 (fun _ => Blk.upd_rows k' enc xs i x' hx') hK
    · rename_i k' l hb
      obtain ⟨⟨rfl, hi, h1⟩, hK⟩ := h
      exact go hb (Blk.row_raw k' l hi) h1 (fun _ => Blk.upd_raw k' l i _) hK
    · exact h.elim
  · exact h.elim

theorem array_of_toList {α : Type} {a : Array α} {l : List α} (h : a.toList = l) : a = l.toArray := by rw [← h]

theorem copyK_sound {P : Program} {o : Oper} {s : Slots} {H : Heap} {K : AV → Heap → Prop} {c : Call} {x v : Operand} {t : TypeId} {z : TyInfo} {id k off len : Nat} (ho : o.op = .call c) (hc : c.callee = .builtin .copy) (ha : c.args = #[x, v])
    (ht0 : c.argTypes[0]? = some t) (hz : elemTy P t = some z) (hx : slAs (ev s x) id k off len) (h : copyK z id k off len (ev s v) H K) : OpA P o s H K := by
  obtain ⟨y, e, h1, h2, h3⟩ := elemTy_spec hz
  unfold copyK at h
  split at h
  · rename_i b n hb hn
    split at h
    · rename_i S hS
      obtain ⟨⟨g1, g2, g3⟩, g4, hK⟩ := h
      exact OpA.copyT (ts := #[]) ho hc ha ht0 h1 h2 h3 g1 hx hb g2 g3 hn hS (fun row hr => (g4 row hr).1) (fun row hr => (g4 row hr).2) hK
    · exact h.elim
  · exact h.elim

theorem clearK_sound {P : Program} {o : Oper} {s : Slots} {H : Heap} {K : AV → Heap → Prop} {c : Call} {x : Operand} {t : TypeId} {z : TyInfo} {id k off len : Nat} (ho : o.op = .call c) (hc : c.callee = .builtin .clear) (ha : c.args = #[x])
    (ht0 : c.argTypes[0]? = some t) (hz : elemTy P t = some z) (hx : slAs (ev s x) id k off len) (h : clearK z id k off len H K) : OpA P o s H K := by
  obtain ⟨y, e, h1, h2, h3⟩ := elemTy_spec hz
  unfold clearK at h
  split at h
  · rename_i b hb
    obtain ⟨⟨g1, g2, g3⟩, ⟨g4, g5, g6⟩, g7, hK⟩ := h
    exact OpA.clear ho hc ha ht0 h1 h2 h3 g1 g4 g5 g6 hx g7 hb g2 g3 hK
  · exact h.elim

theorem appendC_sound {P : Program} {o : Oper} {s : Slots} {H : Heap} {K : AV → Heap → Prop} {c : Call} {x v : Operand} {t t' e : TypeId} {y y' z : TyInfo} {id k off len cap : Nat} (ho : o.op = .call c) (hc : c.callee = .builtin .append) (ha : c.args = #[x, v])
    (hat : c.argTypes = #[t, t']) (ht : tyOf P t = some y) (he : y.elem = some e) (hz : tyOf P e = some z) (ht' : tyOf P t' = some y') (hx : ev s x = .slc id k off len cap) (h : appendC z y' id k off len cap (ev s v) H K) : OpA P o s H K := by
  unfold appendC at h
  split at h
  · rename_i b R hb hR
    obtain ⟨⟨g1, g2, g3, g4, g5⟩, g6, h⟩ := h
    rw [← hx] at hR
    split at h
    · rename_i kt hint
      split at h
      · rename_i kl l hv
        obtain ⟨⟨q1, q2, q3⟩, hK⟩ := h
        exact OpA.appendOutZ ho hc ha hat ht he hz ht' hint g1 hx hR g6 hv q1 q2 q3 g3 g4 g5 hK
      · exact h.elim
    · split at h
      · rename_i S hS
        obtain ⟨q0, q1, q2, q3⟩ := h
        obtain ⟨e', he'⟩ := Option.isSome_iff_exists.1 q0
        rcases Nat.lt_or_ge cap (len + S.length) with hr | hr
        · obtain ⟨q4, hK⟩ := q3 hr
          exact OpA.appendOut ho hc ha hat ht he hz ht' he' g1 hx hR g6 hS (fun row hr => (q1 row hr).1) hr q4 g3 g4 hK
        · obtain ⟨q4, hK⟩ := q2 hr
          exact OpA.appendIn ho hc ha hat ht he hz ht' he' g1 hx hb g2 hS (fun row hr => (q1 row hr).1) (fun row hr => (q1 row hr).2) hr q4 hK
      · exact h.elim
  · exact h.elim

theorem builtinK_sound {P : Program} {o : Oper} {s : Slots} {H : Heap} {K : AV → Heap → Prop} {c : Call} {b : Builtin} (ho : o.op = .call c) (hc : c.callee = .builtin b)
    (h : builtinK P b c.args.toList c.argTypes.toList s H K) : OpA P o s H K := by
  generalize ha : c.args.toList = args at h
  generalize hts : c.argTypes.toList = ts at h
  have ha' := array_of_toList ha
  have hts' := array_of_toList hts
  unfold builtinK at h
  split at h
  · rename_i x t
    split at h
    · rename_i y ht
      have h0 : c.argTypes[0]? = some t := by rw [hts']; rfl
      unfold lenK at h
      split at h
      · rename_i id k off n hx
        obtain ⟨he, hK⟩ := h
        obtain ⟨e, he⟩ := Option.isSome_iff_exists.1 he
        exact OpA.lenSl ho hc ha' h0 ht he (.inl ⟨_, _, _, hx⟩) hK
      · rename_i id k off n cap hx
        obtain ⟨he, hK⟩ := h
        obtain ⟨e, he⟩ := Option.isSome_iff_exists.1 he
        exact OpA.lenSlc ho hc ha' h0 ht he hx hK
      · rename_i α inst k enc xs hx
        obtain ⟨he, hK⟩ := h
        obtain ⟨e, he⟩ := Option.isSome_iff_exists.1 he
        exact OpA.lenSl ho hc ha' h0 ht he (.inr (.inl ⟨_, _, _, _, _, hx, rfl⟩)) hK
      · rename_i hx
        obtain ⟨he, hK⟩ := h
        obtain ⟨e, he⟩ := Option.isSome_iff_exists.1 he
        exact OpA.lenSl (n := 0) ho hc ha' h0 ht he (.inr (.inr (.inl ⟨hx, rfl⟩))) hK
      · rename_i hx
        obtain ⟨he, hK⟩ := h
        obtain ⟨e, he⟩ := Option.isSome_iff_exists.1 he
        exact OpA.lenSl (n := 0) ho hc ha' h0 ht he (.inr (.inr (.inr ⟨hx, rfl⟩))) hK
      · rename_i b hx
        exact OpA.lenStr ho hc ha' h0 ht h.1 hx h.2
      · exact h.elim
    · exact h.elim
  · rename_i x t
    split at h
    · rename_i y ht
      have h0 : c.argTypes[0]? = some t := by rw [hts']; rfl
      unfold capK at h
      split at h
      · rename_i id k off n cap hx
        obtain ⟨he, hK⟩ := h
        obtain ⟨e, he⟩ := Option.isSome_iff_exists.1 he
        exact OpA.cap ho hc ha' h0 ht he (.inl ⟨_, _, _, _, hx⟩) hK
      · rename_i hx
        obtain ⟨he, hK⟩ := h
        obtain ⟨e, he⟩ := Option.isSome_iff_exists.1 he
        exact OpA.cap (n := 0) ho hc ha' h0 ht he (.inr ⟨hx, rfl⟩) hK
      · exact h.elim
    · exact h.elim
  · rename_i x v t t'
    split at h
    · rename_i y y' ht ht'
      split at h
      · rename_i e he
        split at h
        · rename_i z hz
          split at h
          · rename_i id k off len cap hx
            exact appendC_sound ho hc ha' hts' ht he hz ht' hx h
          · obtain ⟨he', h⟩ := h
            obtain ⟨e', he'⟩ := Option.isSome_iff_exists.1 he'
            unfold appendK at h
            split at h
            · rename_i R S hR hS
              obtain ⟨⟨h1, h2⟩, h3, h4, hK⟩ := h
              exact OpA.append ho hc ha' hts' ht he hz ht' he' rfl hR hS (fun row hr => (h3 row hr).1) (fun row hr => (h3 row hr).2) h4 h1 h2 hK
            · exact h.elim
        · exact h.elim
      · exact h.elim
    · exact h.elim
  · rename_i x v t t'
    have h0 : c.argTypes[0]? = some t := by rw [hts']; rfl
    split at h
    · rename_i z hz
      split at h
      · rename_i hx; exact copyK_sound ho hc ha' h0 hz (.inl hx) h
      · rename_i hx; exact copyK_sound ho hc ha' h0 hz (.inr ⟨_, hx⟩) h
      · exact h.elim
    · exact h.elim
  · rename_i x t
    have h0 : c.argTypes[0]? = some t := by rw [hts']; rfl
    split at h
    · rename_i z hz
      split at h
      · rename_i hx; exact clearK_sound ho hc ha' h0 hz (.inl hx) h
      · rename_i hx; exact clearK_sound ho hc ha' h0 hz (.inr ⟨_, hx⟩) h
      · exact h.elim
    · exact h.elim
  · rename_i x y
    split at h
    · rename_i k a k' b hx hy
      refine OpA.plain (fun γ act w hs hsr => ?_) h
      have h1 := ev_rel hsr x
      have h2 := ev_rel hsr y
      rw [hx] at h1
      rw [hy] at h2
      refine ⟨_, ?_, .r (.lit _)⟩
      simp [execOp, ho, resolve, hc, ha', invoke, builtin, Builtin.min_, h1.lit_inv, h2.lit_inv, Builtin.min2]
    · exact h.elim
  · rename_i x y
    split at h
    · rename_i k a k' b hx hy
      refine OpA.plain (fun γ act w hs hsr => ?_) h
      have h1 := ev_rel hsr x
      have h2 := ev_rel hsr y
      rw [hx] at h1
      rw [hy] at h2
      refine ⟨_, ?_, .r (.lit _)⟩
      simp [execOp, ho, resolve, hc, ha', invoke, builtin, Builtin.max_, h1.lit_inv, h2.lit_inv, Builtin.max2]
    · exact h.elim
  · rename_i x y z
    split at h
    · rename_i k a k' b k'' c' hx hy hz
      refine OpA.plain (fun γ act w hs hsr => ?_) h
      have h1 := ev_rel hsr x
      have h2 := ev_rel hsr y
      have h3 := ev_rel hsr z
      rw [hx] at h1
      rw [hy] at h2
      rw [hz] at h3
      refine ⟨_, ?_, .r (.lit _)⟩
      simp [execOp, ho, resolve, hc, ha', invoke, builtin, Builtin.max_, h1.lit_inv, h2.lit_inv, h3.lit_inv, Builtin.max2]
    · exact h.elim
  · exact h.elim
end Go.Ae
end
section
namespace Go.Ae
set_option linter.unusedVariables false
set_option linter.unusedSimpArgs false

/-- A whole number turned into another kind. -/
theorem OpA.convInt {P : Program} {o : Oper} {s : Slots} {H : Heap} {K : AV → Heap → Prop} {src dst : TypeId} {x : Operand} {ys y : TyInfo} {k kk : IntKind} {n : Int} (ho : o.op = .convert src dst x) (hs0 : tyOf P src = some ys) (hd : tyOf P dst = some y) (hk : y.int = some k)
    (hx : ev s x = .r (.lit (.int kk n))) (hK : K (.lit (.int k (wr k n))) H) : OpA P o s H K :=
  OpA.plain (fun γ a w hs hsr => by
    have h1 := ev_rel hsr x
    rw [hx] at h1
    refine ⟨.int k (wr k n), ?_, .r (.lit _)⟩
    obtain ⟨i, d, z, g1, g2, g3, rfl⟩ := tyOf_spec hs0
    have g4 := tyOf_int hd hk
    have e1 : (underlying src).run P w = .ok d w := by simp [underlying, g2]
    have e2 : (underlying dst).run P w = .ok (.int k) w := by simp [underlying, g4]
    simp [execOp, ho, h1.lit_inv, convert, e1, e2, Conv.intToInt, wr]) hK

/-- One byte as a string. -/
theorem OpA.convByte {P : Program} {o : Oper} {s : Slots} {H : Heap} {K : AV → Heap → Prop} {src dst e : TypeId} {x : Operand} {ys y z : TyInfo} {id : Nat} {n : Int} (ho : o.op = .convert src dst x) (hs0 : tyOf P src = some ys) (he : ys.elem = some e) (hz : tyOf P e = some z) (hzi : z.int = some .u8)
    (hd : tyOf P dst = some y) (hds : y.str = true) (hx : ev s x = .sl id 1 0 1) (hb : H.at id = some (.raw 1 [[.r (.lit (.int .u8 n))]])) (hK : K (.lit (.string ⟨#[UInt8.ofNat n.toNat]⟩)) H) : OpA P o s H K :=
  OpA.plain (fun γ a w hs hsr => by
    have h1 := ev_rel hsr x
    rw [hx] at h1
    have hr : rowsOf H (.sl id 1 0 1) = some [[.r (.lit (.int .u8 n))]] := by
      simp [rowsOf, rowsOf0, hb, Blk.k, Blk.L]
    obtain ⟨A, cap, us, hu, hf, hrun⟩ := slice_flat hs (P := P) hr h1 (k := 1) (by simp)
    refine ⟨.string ⟨#[UInt8.ofNat n.toNat]⟩, ?_, .r (.lit _)⟩
    have e1 : (underlying src).run P w = .ok (.slice e) w := run_slice' hs0 w he
    have e2 : (underlying dst).run P w = .ok .string w := run_str' hd w hds
    have e3 : (underlying e).run P w = .ok (.int .u8) w := by
      have := tyOf_int hz hzi
      simp [underlying, this]
    obtain ⟨c, hus⟩ : ∃ c, us = [c] := by
      have := hf.sz
      match us, this with
      | [c], _ => exact ⟨c, rfl⟩
    have hc : Rel γ w (.r (.lit (.int .u8 n))) c := hf.rel 0 _ 0 _ c rfl rfl (by rw [hus]; rfl)
    have hc' := hc.lit_inv
    subst hc'
    have hrun0 := hrun 0
    rw [hu, hus] at hrun0
    cases A with
    | none => simp [Builtin.firstCells] at hrun0
    | some b =>
      simp only [Builtin.firstCells] at hrun0
      have hw : w.drewN 0 = w := rfl
      rw [hw] at hrun0
      have e4 : (loadCells b 1).run P w = .ok #[.int .u8 n] w := by simpa using hrun0
      simp [execOp, ho, hu, convert, e1, e2, e3, Conv.bytesToString, e4]
      rfl) hK
theorem convK_sound {P : Program} {o : Oper} {s : Slots} {H : Heap} {K : AV → Heap → Prop} {src dst : TypeId} {x : Operand} {ys y : TyInfo} (ho : o.op = .convert src dst x) (hs0 : tyOf P src = some ys) (hd : tyOf P dst = some y)
    (h : convK P ys y (ev s x) H K) : OpA P o s H K := by
  generalize hx : ev s x = v at h
  unfold convK at h
  split at h
  · unfold byteK at h
    split at h
    · rename_i k' L hb
      split at h
      · obtain ⟨⟨rfl, rfl, rfl, rfl⟩, h1, h2, h3⟩ := h
        split at h1
        · rename_i e he
          split at h1
          · rename_i z hz
            exact OpA.convByte ho hs0 he hz h1 hd h2 hx hb h3
          · exact h1.elim
        · exact h1.elim
      · exact h.elim
    · exact h.elim
  · unfold convI at h
    split at h
    · split at h
      · rename_i k hk
        exact OpA.convInt ho hs0 hd hk hx h
      · exact h.elim
    · exact h.elim

theorem stepK_sound {P : Program} {o : Oper} {s : Slots} {H : Heap} {K : AV → Heap → Prop} (h : stepK P o.op s H K) : OpA P o s H K := by
  generalize ho : o.op = op at h
  unfold stepK at h
  split at h
  · exact OpA.move (.inl ho) h
  · exact OpA.move (.inr ho) h
  · split at h
    · rename_i hc; exact OpA.pick ho hc h
    · exact h.elim
  · split at h
    · rename_i hc; exact OpA.box ho hc h
    · exact h.elim
  · split at h
    · rename_i ht; exact OpA.alloc ho ht h
    · exact h.elim
  · split at h
    · rename_i ht; exact loadK_sound ho ht h
    · exact h.elim
  · split at h
    · rename_i ht hc; exact storeK_sound ho ht hc h.1.1 h.1.2 h.2
    · exact h.elim
  · split at h
    · rename_i y ht
      split at h
      · rename_i off sz hoff
        split at h
        · rename_i hx; exact OpA.fieldAddr ho hx ht hoff h
        · rename_i hx; exact OpA.fieldAddrRd ho hx ht hoff h
        · exact h.elim
      · exact h.elim
    · exact h.elim
  · split at h
    · rename_i z kk n hz hi
      obtain ⟨y, e, h1, h2, h3⟩ := elemTy_spec hz
      unfold addrK at h
      split at h
      · rename_i hx
        exact OpA.indexAddr ho (.inl hx) hi h1 h2 h3 h.1.symm h.2.1.1 h.2.1.2 h.2.2
      · rename_i hx
        exact OpA.indexAddr ho (.inr ⟨_, hx⟩) hi h1 h2 h3 h.1.symm h.2.1.1 h.2.1.2 h.2.2
      · rename_i hx
        exact OpA.indexAddrRd ho hx hi h1 h2 h3 h.1.symm h.2.1.1 h.2.1.2 h.2.2
      · exact h.elim
    · exact h.elim
  · split at h
    · rename_i ht hx hi
      exact OpA.indexStr ho ht h.1 hx hi h.2.1.1 h.2.1.2 h.2.2
    · exact h.elim
  · rename_i opb tb xb yb zb
    unfold binK at h
    split at h
    · rename_i hx hy; exact OpA.bin ho hx hy (fun w => intBin_run h.1 _ _ _ w) h.2
    · rename_i hx hy
      obtain ⟨hd, h⟩ := h
      split at h
      · exact OpA.bin ho hx hy (fun w => (boolBin_run _ _ _ _ _ w hd).1) h
      · exact OpA.bin ho hx hy (fun w => (boolBin_run _ _ _ _ _ w hd).2) h
      · exact h.elim
    · rename_i hx hy
      split at h
      · rename_i hr; exact OpA.bin ho hx hy (fun w => strBin_run hr h.1 _ _ _ w) h.2
      · exact h.elim
    · rename_i hx hy
      unfold aggK at h
      split at h
      · rename_i hk
        split at h
        · rename_i he
          split at h
          · exact OpA.aggEq ho (.inl rfl) hx hy hk he (by simpa using h)
          · exact OpA.aggEq ho (.inr rfl) hx hy hk he (by simpa using h)
          · exact h.elim
        · exact h.elim
      · exact h.elim
    · unfold nilCmpK at h
      split at h
      · rename_i hy
        split at h
        · rename_i n y hn ht
          obtain ⟨he, h⟩ := h
          obtain ⟨e, he⟩ := Option.isSome_iff_exists.1 he
          have hxx : (∃ id k off, ev s xb = .sl id k off n) ∨ (∃ id k off c, ev s xb = .slc id k off n c) ∨ (∃ (α : Type) (_ : Inhabited α) (k : Nat) (enc : α → List RV) (xs : List α), ev s xb = .r (.rd k enc xs) ∧ xs.length = n) ∨ (ev s xb = .mt ∧ n = 0) ∨ (ev s xb = .lit (.slice none 0 0) ∧ n = 0) := by
            unfold lenV at hn
            split at hn <;> first | (cases hn; done) | (simp only [Option.some.injEq] at hn; subst hn; rename_i hx; first | exact .inl ⟨_, _, _, hx⟩ | exact .inr (.inl ⟨_, _, _, _, hx⟩) | exact .inr (.inr (.inl ⟨_, _, _, _, _, hx, rfl⟩)) | exact .inr (.inr (.inr (.inl ⟨hx, rfl⟩))) | exact .inr (.inr (.inr (.inr ⟨hx, rfl⟩))))
          split at h
          · exact OpA.nilSl ho (.inl rfl) ht he hxx hy (fun b hb => by simpa using h b hb)
          · exact OpA.nilSl ho (.inr rfl) ht he hxx hy (fun b hb => by simpa using h b hb)
          · exact h.elim
        · exact h.elim
      · exact h.elim
  · unfold unK at h
    split at h
    · rename_i hx; exact OpA.un ho hx (fun w => rfl) h
    · rename_i hx; exact OpA.un ho hx (fun w => rfl) h
    · exact h.elim
  · split at h
    · rename_i ys y hts htd
      exact convK_sound ho hts htd h
    · exact h.elim
  · rename_i x
    unfold nilK at h
    split at h
    · rename_i hx; exact OpA.nilCheck ho (.inl ⟨_, _, _, _, hx⟩) h
    · rename_i hx; exact OpA.nilCheck ho (.inr (.inl ⟨_, _, hx⟩)) h
    · rename_i hx; exact OpA.nilCheck ho (.inr (.inr ⟨_, _, _, _, _, _, _, hx⟩)) h
    · exact h.elim
  · split at h
    · rename_i hf hx
      split at h
      · rename_i hv; exact OpA.field ho hx hf hv h
      · exact h.elim
    · exact h.elim
  · split at h
    · rename_i hx
      split at h
      · rename_i hv; exact OpA.extract ho hx hv h
      · exact h.elim
    · exact h.elim
  · split at h
    · rename_i hf
      exact OpA.makeFunc (by rw [ho, array_of_toList hf]) h
    · exact h.elim
  · split at h
    · rename_i ht
      obtain ⟨⟨h1, h2⟩, h⟩ := h
      split at h
      · rename_i hf; exact OpA.build ho ht h1 h2 hf h
      · exact h.elim
    · exact h.elim
  · split at h
    · rename_i hz
      obtain ⟨y, e, g1, g2, g3⟩ := elemTy_spec hz
      obtain ⟨⟨h1, h2, h3⟩, h⟩ := h
      split at h
      · rename_i hf; exact OpA.buildSlice ho g1 g2 g3 h1 h2 h3 hf h
      · exact h.elim
    · exact h.elim
  · split at h
    · rename_i hz hl hc
      obtain ⟨y, e, g1, g2, g3⟩ := elemTy_spec hz
      obtain ⟨⟨h1, h2, h3⟩, ⟨rfl, h4, h5⟩, h⟩ := h
      exact OpA.makeSlice ho g1 g2 g3 h1 h2 hl hc h4 h5 h3 h
    · exact h.elim
  · rename_i t x lo hi mx
    split at h
    · split at h
      · rename_i b hx
        split at h
        · rename_i ht hlo hhi; exact OpA.sliceStr ho ht h.1 hx hlo hhi h.2.1.1 h.2.1.2.1 h.2.1.2.2 h.2.2
        · exact h.elim
      · split at h
        · rename_i hz
          obtain ⟨y, e, g1, g2, g3⟩ := elemTy_spec hz
          unfold sliceK at h
          split at h
          · rename_i hx
            split at h
            · split at h
              · rename_i hhi
                obtain ⟨hk, h1, h2, hK⟩ := h
                exact OpA.sliceUp ho g1 g2 g3 hk.symm hx hhi h1.1 h1.2 h2 hK
              · exact h.elim
            · split at h
              · rename_i hlo hhi
                obtain ⟨hk, h1, hK⟩ := h
                exact OpA.sliceSl ho g1 g2 g3 hk.symm (.inl hx) hlo hhi h1.1 h1.2.1 h1.2.2 hK
              · exact h.elim
          · rename_i hx
            split at h
            · split at h
              · rename_i hlo
                obtain ⟨hk, h1, hK⟩ := h
                exact OpA.sliceSl (h := _) ho g1 g2 g3 hk.symm (.inr ⟨_, hx⟩) hlo (by simp only [bnd]) h1.1 h1.2 (Int.le_refl _) (by simpa using hK)
              · exact h.elim
            · split at h
              · rename_i hlo hhi
                obtain ⟨hk, h1, hK⟩ := h
                exact OpA.sliceSlc ho g1 g2 g3 hk.symm hx hlo hhi h1.1 h1.2.1 h1.2.2.1 h1.2.2.2 hK
              · exact h.elim
          · rename_i hx
            split at h
            · rename_i hlo hhi
              obtain ⟨hk, h1, hK⟩ := h
              exact OpA.sliceRd ho g1 g2 g3 hk.symm hx hlo hhi h1.1 h1.2.1 h1.2.2 hK
            · exact h.elim
          · exact h.elim
        · exact h.elim
    · split at h
      · split at h
        · rename_i hz hh hm
          obtain ⟨y, e, g1, g2, g3⟩ := elemTy_spec hz
          obtain ⟨⟨rfl, rfl⟩, h⟩ := h
          split at h
          · rename_i hx; exact OpA.slice00 ho g1 g2 g3 (.inl ⟨_, _, _, _, hx⟩) hh hm h
          · rename_i hx; exact OpA.slice00 ho g1 g2 g3 (.inr (.inr (.inl hx))) hh hm h
          · rename_i hx; exact OpA.slice00 ho g1 g2 g3 (.inr (.inr (.inr hx))) hh hm h
          · rename_i hx; exact OpA.slice00 ho g1 g2 g3 (.inr (.inl ⟨_, _, _, _, _, hx⟩)) hh hm h
          · exact h.elim
        · exact h.elim
      · split at h
        · rename_i hz hl hh hm
          obtain ⟨y, e, g1, g2, g3⟩ := elemTy_spec hz
          split at h
          · rename_i hx
            exact OpA.slice3 ho g1 g2 g3 h.1 (.inl hx) (by simp only [bnd, hl]) hh hm h.2.1.1 h.2.1.2.1 h.2.1.2.2.1 h.2.1.2.2.2 h.2.2
          · rename_i hx
            exact OpA.slice3 ho g1 g2 g3 h.1 (.inr ⟨_, hx⟩) (by simp only [bnd, hl]) hh hm h.2.1.1 h.2.1.2.1 h.2.1.2.2.1 h.2.1.2.2.2 h.2.2
          · exact h.elim
        · exact h.elim
      · exact h.elim
  · rename_i c
    split at h
    · rename_i x hc
      split at h
      · rename_i hx
        split at h
        · rename_i hb; exact OpA.call ho hc hx hb h
        · split at h
          · exact overK_sound ho hc hx h
          · exact h.elim
      · exact h.elim
    · rename_i hc; exact builtinK_sound ho hc h
    · exact h.elim
  · exact h.elim

/-! ### Regions -/
def putS (s : Slots) (d : Option Tmp) (v : AV) : Slots := match d with
  | some t => s.set t v
  | none => s

theorem SRel.put {γ : Gh} {w : World} {s : Slots} {a : Act} (h : SRel γ w s a) {v : AV} {u : Value} (hv : Rel γ w v u) (d : Option Tmp) : SRel γ w (putS s d v) (a.put d u) := by
  cases d with
  | none => exact h
  | some t =>
    refine ⟨h.d, by simp [putS, Act.put, h.n], fun i v' u' h1 h2 => ?_⟩
    simp only [putS, Act.put] at h1 h2
    rw [List.getElem?_set] at h1
    rw [Array.getElem?_setIfInBounds] at h2
    by_cases hi : t = i
    · subst hi
      simp only [if_true] at h1 h2
      split at h1
      · split at h2
        · cases h1; cases h2; exact hv
        · cases h2
      · cases h1
    · simp only [hi, if_false] at h1 h2
      exact h.r i v' u' h1 h2

theorem SRel.mono {γ γ' : Gh} {w w' : World} {s : Slots} {a : Act} (h : SRel γ w s a) (hn : γ.n ≤ γ'.n) (hρ : ∀ id, id < γ.n → γ'.ρ id = γ.ρ id ∧ γ'.m id = γ.m id) (hR : ∀ b, γ.R b → γ'.R b)
    (hk : ∀ b, γ.R b → w'.heap[b]? = w.heap[b]?) : SRel γ' w' s a := ⟨h.d, h.n, fun i v u h1 h2 => (h.r i v u h1 h2).mono hn hρ hR hk⟩

theorem SRel.evo {γ γ' : Gh} {w w' : World} {H H' : Heap} {s : Slots} {a : Act} (h : SRel γ w s a) (hs : Sat γ w H) (hs' : Sat γ' w' H') (hl : H.length ≤ H'.length) (e : Evo H.length γ H w γ' H' w') : SRel γ' w' s a :=
  h.mono (by rw [hs.n, hs'.n]; exact hl) (fun id hid => e.ρ id (by rw [← hs.n]; exact hid)) e.R (fun b hb => e.keep b (hs.rd b hb).1 (hs.rd b hb).2)

/-- The slot of operation number j's result. -/
def gslot (ops : List Oper) (j : Nat) : Option Tmp := match ops[j]? with
  | some o => o.dst
  | none => none

/-- A guard: both ways, or the one that is known. -/
def guardK (b want : Bool) (A B : Prop) : Prop := (b = want → A) ∧ (b = !want → B)
theorem guardK_tt (A B : Prop) : guardK true true A B = A := by simp [guardK]
theorem guardK_ff (A B : Prop) : guardK false false A B = A := by simp [guardK]
theorem guardK_tf (A B : Prop) : guardK true false A B = B := by simp [guardK]
theorem guardK_ft (A B : Prop) : guardK false true A B = B := by simp [guardK]
theorem guardK_t (b : Bool) (A B : Prop) : guardK b true A B = ((b = true → A) ∧ (b = false → B)) := rfl
theorem guardK_f (b : Bool) (A B : Prop) : guardK b false A B = ((b = false → A) ∧ (b = true → B)) := rfl

/-- A region's operations one behind the other. -/
def regK (P : Program) (all : List Oper) : List Oper → Slots → Heap → (Slots → Heap → Prop) → Prop
  | [], s, H, K => K s H
  | o :: rest, s, H, K => match o.guard with
    | none => stepK P o.op s H (fun v H' => regK P all rest (putS s o.dst v) H' K)
    | some (j, want) => match gslot all j with
      | some d => match s.getD d .any with
        | .r (.lit (.bool b)) =>
          guardK b want (stepK P o.op (s.set d (.lit (.bool want))) H (fun v H' => regK P all rest (putS (s.set d (.lit (.bool want))) o.dst v) H' K))
            (regK P all rest (putS (s.set d (.lit (.bool !want))) o.dst (.lit undef)) H K)
        | .r (.lit (.tuple _)) => regK P all rest (putS s o.dst (.lit undef)) H K
        | _ => False
      | none => False

theorem SRel.same {γ : Gh} {w : World} {s : Slots} {a : Act} (h : SRel γ w s a) {d : Tmp} {b : Bool} (hd : s.getD d .any = .lit (.bool b)) (c : Bool) (hc : b = c) : SRel γ w (s.set d (.lit (.bool c))) a := by
  subst hc
  refine ⟨h.d, by simp [h.n], fun i v u h1 h2 => ?_⟩
  rw [List.getElem?_set] at h1
  split at h1
  · rename_i hi
    subst hi
    split at h1
    · rename_i hlt
      cases h1
      rw [List.getD_eq_getElem?_getD, List.getElem?_eq_getElem hlt, Option.getD_some] at hd
      exact h.r d _ u (by rw [List.getElem?_eq_getElem hlt, hd]) h2
    · cases h1
  · exact h.r i v u h1 h2

theorem yielded_slot {γ : Gh} {w : World} {s : Slots} {a : Act} (h : SRel γ w s a) {ops : Array Oper} {j : Nat} {d : Tmp} {b : Bool} (hg : gslot ops.toList j = some d) (hd : s.getD d .any = .lit (.bool b)) :
    yielded ops a.tmps j = some b := by
  have h1 : (ops[j]?).bind (·.dst) = some d := by
    unfold gslot at hg
    rw [Array.getElem?_toList] at hg
    cases ho : ops[j]? with
    | none => rw [ho] at hg; cases hg
    | some o => rw [ho] at hg; exact hg
  have hlt : d < s.length := by
    rcases Nat.lt_or_ge d s.length with h2 | h2
    · exact h2
    · rw [List.getD_eq_getElem?_getD, List.getElem?_eq_none h2] at hd; cases hd
  have h2 : d < a.tmps.size := by rw [h.n]; exact hlt
  have h3 := h.r d _ _ (List.getElem?_eq_getElem hlt) (Array.getElem?_eq_getElem h2)
  rw [List.getD_eq_getElem?_getD, List.getElem?_eq_getElem hlt, Option.getD_some] at hd
  rw [hd] at h3
  unfold yielded
  rw [h1]
  simp only [Option.bind_some, Array.getElem?_eq_getElem h2, h3.lit_inv]

theorem yielded_none {γ : Gh} {w : World} {s : Slots} {a : Act} (h : SRel γ w s a) {ops : Array Oper} {j : Nat} {d : Tmp} {vs : Array Value} (hg : gslot ops.toList j = some d) (hd : s.getD d .any = .r (.lit (.tuple vs))) :
    yielded ops a.tmps j = none := by
  have h1 : (ops[j]?).bind (·.dst) = some d := by
    unfold gslot at hg
    rw [Array.getElem?_toList] at hg
    cases ho : ops[j]? with
    | none => rw [ho] at hg; cases hg
    | some o => rw [ho] at hg; exact hg
  have hlt : d < s.length := by
    rcases Nat.lt_or_ge d s.length with h2 | h2
    · exact h2
    · rw [List.getD_eq_getElem?_getD, List.getElem?_eq_none h2] at hd; cases hd
  have h2 : d < a.tmps.size := by rw [h.n]; exact hlt
  have h3 := h.r d _ _ (List.getElem?_eq_getElem hlt) (Array.getElem?_eq_getElem h2)
  rw [List.getD_eq_getElem?_getD, List.getElem?_eq_getElem hlt, Option.getD_some] at hd
  rw [hd] at h3
  unfold yielded
  rw [h1]
  simp only [Option.bind_some, Array.getElem?_eq_getElem h2, h3.lit_inv]

theorem regK_sound {P : Program} {ops : Array Oper} {p : Nat} {Q : Exit → Act → World → Prop} {K : Slots → Heap → Prop} : ∀ (l : List Oper) (k : Nat) (s : Slots) (H : Heap), (∀ j, l[j]? = ops[k + j]?) → regK P ops.toList l s H K →
    ∀ γ a w, Sat γ w H → SRel γ w s a → p ≤ H.length →
    (∀ γ' a' w' s' H', K s' H' → H.length ≤ H'.length → Evo H.length γ H w γ' H' w' → Sat γ' w' H' → SRel γ' w' s' a' → Q .normal a' w') →
    wpOps P ops Q (List.range' k l.length) a w
  | [], k, s, H, hl, h, γ, a, w, hs, hr, hp, hQ => hQ γ a w s H h (Nat.le_refl _) (.refl _ _ _ _) hs hr
  | o :: rest, k, s, H, hl, h, γ, a, w, hs, hr, hp, hQ => by
    have h0 : ops[k]? = some o := by simpa using (hl 0).symm
    have hl' : ∀ j, rest[j]? = ops[k + 1 + j]? := fun j => by have := hl (j + 1); simpa [Nat.add_assoc, Nat.add_comm 1 j] using this
    simp only [List.length_cons, List.range'_succ, wpOps, h0]
    -- one operation that is carried out
    have run : ∀ s1 : Slots, SRel γ w s1 a → stepK P o.op s1 H (fun v H' => regK P ops.toList rest (putS s1 o.dst v) H' K) → o.wp P a w (wpOps P ops Q (List.range' (k + 1) rest.length)) Q := by
      intro s1 hr1 hst
      refine stepK_sound hst γ a w hs hr1 _ _ fun γ' u v H' w' hk hlen ev hs' hv => ?_
      refine regK_sound rest (k + 1) (putS s1 o.dst v) H' hl' hk γ' _ w' hs' ((hr1.evo hs hs' hlen ev).put hv _) (Nat.le_trans hp hlen) fun γ'' a'' w'' s'' H'' q hl'' ev' hs'' hr'' => ?_
      exact hQ γ'' a'' w'' s'' H'' q (Nat.le_trans hlen hl'') (ev.trans ⟨fun id hid => ev'.ρ id (Nat.lt_of_lt_of_le hid hlen), ev'.R, ev'.R', ev'.L, ev'.os, ev'.tape, ev'.output, ev'.size, ev'.keep⟩) hs'' hr''
    have pass : ∀ s1 : Slots, SRel γ w s1 a → regK P ops.toList rest (putS s1 o.dst (.lit undef)) H K → wpOps P ops Q (List.range' (k + 1) rest.length) (a.put o.dst undef) w := by
      intro s1 hr1 hrest
      exact regK_sound rest (k + 1) (putS s1 o.dst (.lit undef)) H hl' hrest γ _ w hs (hr1.put (.r (.lit _)) _) hp hQ
    unfold regK at h
    split at h
    · rename_i hg
      have hw : Region.wanted o (yielded ops a.tmps) = true := by simp [Region.wanted, hg]
      rw [if_pos hw]
      exact .inl (run s hr h)
    · rename_i j want hg
      split at h
      · rename_i d hd
        split at h
        · rename_i b hb
          have hy := yielded_slot hr hd hb
          by_cases hbw : b = want
          · have hw : Region.wanted o (yielded ops a.tmps) = true := by simp [Region.wanted, hg, hy, hbw]
            rw [if_pos hw]
            exact .inl (run _ (hr.same hb want hbw) (h.1 hbw))
          · have hbw' : b = !want := by cases b <;> cases want <;> simp_all
            have hw : ¬ Region.wanted o (yielded ops a.tmps) = true := by simp [Region.wanted, hg, hy, hbw]
            rw [if_neg hw]
            exact pass _ (hr.same hb (!want) hbw') (h.2 hbw')
        · rename_i vs hb
          have hy := yielded_none hr hd hb
          have hw : ¬ Region.wanted o (yielded ops a.tmps) = true := by simp [Region.wanted, hg, hy]
          rw [if_neg hw]
          exact pass s hr h
        · exact h.elim
      · exact h.elim

theorem Tri0.region {P : Program} {p : Nat} {id : Nat} {ops : Array Oper} {s : Slots} {H : Heap} {Q : Exit → Slots → Heap → Prop} (h : regK P ops.toList ops.toList s H (fun s' H' => Q .normal s' H')) :
    Tri0 P p (.region id ops false) s H Q := by
  intro γ a w hp hs hr
  refine wp_region ?_
  rw [List.range_eq_range', ← Array.length_toList]
  refine regK_sound (p := p) ops.toList 0 s H (fun j => by simp) h γ a w hs hr hp fun γ' a' w' s' H' q hl ev hs' hr' => ?_
  exact ⟨γ', s', H', q, Nat.le_trans hp hl, ⟨fun id hid => ev.ρ id (Nat.lt_of_lt_of_le hid hp), ev.R, ev.R', ev.L, ev.os, ev.tape, ev.output, ev.size, ev.keep⟩, hs', hr'⟩
end Go.Ae
end
section
namespace Go.Ae
set_option linter.unusedVariables false
set_option linter.unusedSimpArgs false

/-! ### One state told as another: numbers given anew (τ: new to old), blocks forgotten or read from now on -/
/-- A readable value told of what stood as v. 'F': the old numbers that are given up. -/
def RSub (H : Heap) (F : Nat → Prop) (x : RV) (v : AV) : Prop :=
  match v with
  | .r y => x = y ∨ (y = .lit (.slice none 0 0) ∧ ∃ (α : Type) (_ : Inhabited α) (k : Nat) (enc : α → List RV), x = .rd k enc ([] : List α))
  | .mt => ∃ (α : Type) (_ : Inhabited α) (k : Nat) (enc : α → List RV), x = .rd k enc ([] : List α)
  | .sl id k off len => F id ∧ ∃ (α : Type) (_ : Inhabited α) (enc : α → List RV) (xs : List α) (b : Blk), x = .rd k enc xs ∧ xs.length = len ∧ H.at id = some b ∧ b.k = k ∧ off + len ≤ b.L.length ∧
      (b.L.drop off).take len = xs.map fun x => (enc x).map AV.r
  | .slc id k off len _ => F id ∧ ∃ (α : Type) (_ : Inhabited α) (enc : α → List RV) (xs : List α) (b : Blk), x = .rd k enc xs ∧ xs.length = len ∧ H.at id = some b ∧ b.k = k ∧ off + len ≤ b.L.length ∧
      (b.L.drop off).take len = xs.map fun x => (enc x).map AV.r
  | _ => False

mutual
def VSub (H : Heap) (F : Nat → Prop) (τ : Nat → Option Nat) (n : Nat) : AV → AV → Prop
  | .any, _ => True
  | .r x, v => RSub H F x v
  | .agg cs, v => match v with
    | .agg ds => LSub H F τ n cs ds
    | _ => False
  | .tup cs, v => match v with
    | .tup ds => LSub H F τ n cs ds
    | _ => False
  | .fn g cs, v => match v with
    | .fn g' ds => g' = g ∧ LSub H F τ n cs ds
    | _ => False
  | .ptr id k i f, v => match v with
    | .ptr id' k' i' f' => id < n ∧ τ id = some id' ∧ k' = k ∧ i' = i ∧ f' = f
    | _ => False
  | .sl id k off len, v => match v with
    | .sl id' k' off' len' => id < n ∧ τ id = some id' ∧ k' = k ∧ off' = off ∧ len' = len
    | .slc id' k' off' len' _ => id < n ∧ τ id = some id' ∧ k' = k ∧ off' = off ∧ len' = len
    | .r (.lit (.slice none 0 0)) => id < n ∧ off = 0 ∧ len = 0
    | .mt => id < n ∧ off = 0 ∧ len = 0
    | _ => False
  | .slc .., _ => False
  | .mt, v => match v with
    | .mt => True
    | _ => False
  | @AV.rp α inst k enc xs i f, v => v = @AV.rp α inst k enc xs i f ∨ (match v with
    | .ptr id k' i' f' => F id ∧ k' = k ∧ i' = i ∧ f' = f ∧ ∃ b, H.at id = some b ∧ b.k = k ∧ b.L = xs.map fun x => (enc x).map AV.r
    | _ => False)
def LSub (H : Heap) (F : Nat → Prop) (τ : Nat → Option Nat) (n : Nat) : List AV → List AV → Prop
  | [], ds => ds = []
  | c :: cs, ds => match ds with
    | d :: ds => VSub H F τ n c d ∧ LSub H F τ n cs ds
    | [] => False
end

theorem LSub.get {H : Heap} {F : Nat → Prop} {τ : Nat → Option Nat} {n : Nat} : ∀ {cs ds : List AV}, LSub H F τ n cs ds → cs.length = ds.length ∧ ∀ (i : Nat) (c d : AV), cs[i]? = some c → ds[i]? = some d → VSub H F τ n c d
  | [], ds, h => by simp only [LSub] at h; subst h; simp
  | c :: cs, [], h => by simp only [LSub] at h
  | c :: cs, d :: ds, h => by
    simp only [LSub] at h
    obtain ⟨h1, h2⟩ := h.2.get
    refine ⟨by simp [h1], fun i c' d' hc hd => ?_⟩
    cases i with
    | zero => simp at hc hd; subst hc hd; exact h.1
    | succ i => exact h2 i c' d' (by simpa using hc) (by simpa using hd)

/-- The ghost of the new telling. -/
def Gh.re (γ : Gh) (H : Heap) (F : Nat → Prop) (τ : Nat → Option Nat) (n : Nat) : Gh where
  ρ := fun j => (τ j).bind γ.ρ
  m := fun j => match τ j with
    | some i => γ.m i
    | none => 0
  R := fun x => γ.R x ∨ ∃ id b, F id ∧ H.at id = some b ∧ γ.ρ id = some x
  n := n

theorem Rel.rR {γ : Gh} {w : World} {x : RV} {u : Value} (h : Rel γ w (.r x) u) : RRel γ.R w x u := by cases h; assumption

theorem VSub.rel {γ : Gh} {w : World} {H : Heap} (hs : Sat γ w H) {F : Nat → Prop} {τ : Nat → Option Nat} {n : Nat} : ∀ {v : AV} {u : Value}, Rel γ w v u → ∀ {v2 : AV}, VSub H F τ n v2 v → Rel (γ.re H F τ n) w v2 u := by
  have hR : ∀ b, γ.R b → (γ.re H F τ n).R b := fun b h => .inl h
  have rsl : ∀ {x : RV} {id k off len : Nat} {u : Value}, Rel γ w (.sl id k off len) u → RSub H F x (.sl id k off len) → Rel (γ.re H F τ n) w (.r x) u := by
    intro x id k off len u hr h
    unfold RSub at h
    simp only at h
    obtain ⟨hF, α, inst, enc, xs, b, rfl, hxl, hb, hbk, hle, hrows⟩ := h
    cases hr with
    | slz _ _ _ A hid =>
      rw [List.length_eq_zero_iff.1 hxl]
      exact .r (.rd0 _ _ _ _)
    | sl _ _ _ _ xx c hid hxx hc hcm =>
      have h1 := hs.blk id b hb
      rw [hxx] at h1
      obtain ⟨vs, t, h2, hmm, h3⟩ := h1
      subst hxl
      have key : ∀ (i : Nat) (x : α), xs[i]? = some x → b.L[off + i]? = some ((enc x).map AV.r) := by
        intro i x hx
        have hi : i < xs.length := (List.getElem?_eq_some_iff.1 hx).1
        have : ((b.L.drop off).take xs.length)[i]? = some ((enc x).map AV.r) := by rw [hrows, List.getElem?_map, hx]; rfl
        rw [List.getElem?_take, if_pos hi, List.getElem?_drop] at this
        exact this
      refine .r (.rd k enc xs xx (off * k) c (fun i f => (w.cell? ⟨xx, off * k + i * k + f, none⟩).getD undef) (.inr ⟨id, b, hF, hb, hxx⟩) hc (fun i x hx => ?_) (fun i x f v hx hf => ?_) (fun i x f v hx hf => ?_))
      · have := h3.len _ _ (key i x hx)
        rw [List.length_map] at this
        omega
      · have hrow : b.row k (off + i) = some ((enc x).map AV.r) := by unfold Blk.row; rw [if_pos hbk]; exact key i x hx
        obtain ⟨_, _, h6⟩ := row_at h3 hrow
        obtain ⟨u, h7, h8⟩ := h6 f (.r v) (by rw [List.getElem?_map, hf]; rfl)
        rw [Nat.add_mul] at h7
        simp [World.cell?, h2, h7]
      · have hrow : b.row k (off + i) = some ((enc x).map AV.r) := by unfold Blk.row; rw [if_pos hbk]; exact key i x hx
        obtain ⟨_, _, h6⟩ := row_at h3 hrow
        obtain ⟨u, h7, h8⟩ := h6 f (.r v) (by rw [List.getElem?_map, hf]; rfl)
        rw [Nat.add_mul] at h7
        have hcell : w.cell? ⟨xx, off * k + i * k + f, none⟩ = some u := by simp [World.cell?, h2, h7]
        rw [hcell]
        exact h8.rR.mono hR fun _ _ => rfl
  have rsub : ∀ {x : RV} {v : AV} {u : Value}, Rel γ w v u → RSub H F x v → Rel (γ.re H F τ n) w (.r x) u := by
    intro x v u hr h
    unfold RSub at h
    split at h
    · rcases h with rfl | ⟨rfl, α, inst, k, enc, rfl⟩
      · exact .r (hr.rR.mono hR fun _ _ => rfl)
      · have := hr.lit_inv
        subst this
        exact .r (.rd0 k enc none 0)
    · obtain ⟨α, inst, k, enc, rfl⟩ := h
      cases hr with
      | mt A => exact .r (.rd0 k enc A 0)
    · exact rsl hr (by unfold RSub; exact h)
    · exact rsl hr.slc_sl (by unfold RSub; exact h)
    · exact h.elim
  intro v u h
  induction h with
  | any v =>
    intro v2 h2
    cases v2 <;> simp only [VSub] at h2 <;> first | exact .any _ | (simp [RSub] at h2; done) | exact h2.elim | (cases h2; done)
  | r h =>
    intro v2 h2
    cases v2 with
    | any => exact .any _
    | r x => simp only [VSub] at h2; exact rsub (.r h) h2
    | sl id k off len =>
      simp only [VSub] at h2
      split at h2
      · rename_i heq; cases heq
      · rename_i heq; cases heq
      · rename_i heq
        cases heq
        obtain ⟨h3, rfl, rfl⟩ := h2
        cases h with
        | lit _ => exact .slz id k 0 none h3
      · rename_i heq; cases heq
      · exact h2.elim
    | rp k enc xs i f => simp [VSub] at h2
    | _ => simp only [VSub] at h2
  | agg cs vs hl _ ih =>
    intro v2 h2
    cases v2 with
    | any => exact .any _
    | r x => simp [VSub, RSub] at h2
    | agg ds =>
      simp only [VSub] at h2
      obtain ⟨g1, g2⟩ := h2.get
      refine .agg _ _ (by rw [g1, hl]) fun i c v hc hv => ?_
      have hi : i < cs.length := by rw [← g1]; exact (List.getElem?_eq_some_iff.1 hc).1
      exact ih i _ v (List.getElem?_eq_getElem hi) hv (g2 i c _ hc (List.getElem?_eq_getElem hi))
    | rp k enc xs i f => simp [VSub] at h2
    | _ => simp only [VSub] at h2
  | tup cs vs hl _ ih =>
    intro v2 h2
    cases v2 with
    | any => exact .any _
    | r x => simp [VSub, RSub] at h2
    | tup ds =>
      simp only [VSub] at h2
      obtain ⟨g1, g2⟩ := h2.get
      refine .tup _ _ (by rw [g1, hl]) fun i c v hc hv => ?_
      have hi : i < cs.length := by rw [← g1]; exact (List.getElem?_eq_some_iff.1 hc).1
      exact ih i _ v (List.getElem?_eq_getElem hi) hv (g2 i c _ hc (List.getElem?_eq_getElem hi))
    | rp k enc xs i f => simp [VSub] at h2
    | _ => simp only [VSub] at h2
  | fn g cs vs hl _ ih =>
    intro v2 h2
    cases v2 with
    | any => exact .any _
    | r x => simp [VSub, RSub] at h2
    | fn g' ds =>
      simp only [VSub] at h2
      obtain ⟨rfl, h2⟩ := h2
      obtain ⟨g1, g2⟩ := h2.get
      refine .fn _ _ _ (by rw [g1, hl]) fun i c v hc hv => ?_
      have hi : i < cs.length := by rw [← g1]; exact (List.getElem?_eq_some_iff.1 hc).1
      exact ih i _ v (List.getElem?_eq_getElem hi) hv (g2 i c _ hc (List.getElem?_eq_getElem hi))
    | rp k enc xs i f => simp [VSub] at h2
    | _ => simp only [VSub] at h2
  | ptr id k i f x h1 h =>
    intro v2 h2
    cases v2 with
    | any => exact .any _
    | r x => simp [VSub, RSub] at h2
    | ptr id' k' i' f' =>
      simp only [VSub] at h2
      obtain ⟨h3, h4, rfl, rfl, rfl⟩ := h2
      exact .ptr _ _ _ _ x h3 (by simp only [Gh.re, h4, Option.bind_some, h])
    | @rp α inst k' enc xs i' f' =>
      simp only [VSub] at h2
      rcases h2 with h2 | ⟨hF, rfl, rfl, rfl, b, hb, hbk, hbL⟩
      · cases h2
      · have h1 := hs.blk id b hb
        rw [h] at h1
        obtain ⟨vs, t, g2, hmm, g3⟩ := h1
        have key : ∀ (i : Nat) (x : α), xs[i]? = some x → b.L[i]? = some ((enc x).map AV.r) := by
          intro i x hx
          rw [hbL, List.getElem?_map, hx]
          rfl
        have hrow : ∀ (i : Nat) (y : α), xs[i]? = some y → b.row k (i) = some ((enc y).map AV.r) := fun i y hy => by unfold Blk.row; rw [if_pos hbk]; exact key i y hy
        have e0 : (⟨x, i * k + f, none⟩ : Addr) = ⟨x, 0 + i * k + f, none⟩ := by rw [Nat.zero_add]
        rw [e0]
        refine .rp k enc xs i f x 0 (fun i f => (w.cell? ⟨x, 0 + i * k + f, none⟩).getD undef) (.inr ⟨id, b, hF, hb, h⟩) (fun i y hy => ?_) (fun i y f v hy hf => ?_) (fun i y f v hy hf => ?_)
        · have := g3.len _ _ (key i y hy)
          rw [List.length_map] at this
          omega
        · obtain ⟨_, _, h6⟩ := row_at g3 (hrow i y hy)
          obtain ⟨u, h7, h8⟩ := h6 f (.r v) (by rw [List.getElem?_map, hf]; rfl)
          simp [World.cell?, g2, h7]
        · obtain ⟨_, _, h6⟩ := row_at g3 (hrow i y hy)
          obtain ⟨u, h7, h8⟩ := h6 f (.r v) (by rw [List.getElem?_map, hf]; rfl)
          have hcell : w.cell? ⟨x, 0 + i * k + f, none⟩ = some u := by simp [World.cell?, g2, h7]
          rw [hcell]
          exact h8.rR.mono hR fun _ _ => rfl
    | _ => simp only [VSub] at h2
  | sl id k off len x c h1 h hl hm =>
    intro v2 h2
    cases v2 with
    | any => exact .any _
    | r y => simp only [VSub] at h2; exact rsub (.sl id k off len x c h1 h hl hm) h2
    | sl id' k' off' len' =>
      simp only [VSub] at h2
      obtain ⟨h3, h4, rfl, rfl, rfl⟩ := h2
      exact .sl _ _ _ _ x c h3 (by simp only [Gh.re, h4, Option.bind_some, h]) hl (by simp only [Gh.re, h4]; exact hm)
    | rp k enc xs i f => simp [VSub] at h2
    | _ => simp only [VSub] at h2
  | slc id k off len x c h1 h hl hm =>
    intro v2 h2
    cases v2 with
    | any => exact .any _
    | r y => exact rsub (.slc _ _ _ _ _ _ h1 h hl hm) (by simpa only [VSub] using h2)
    | sl id' k' off' len' =>
      simp only [VSub] at h2
      obtain ⟨h3, h4, rfl, rfl, rfl⟩ := h2
      exact .sl _ _ _ _ x c h3 (by simp only [Gh.re, h4, Option.bind_some, h]) hl (by simp only [Gh.re, h4]; exact hm)
    | rp k enc xs i f => simp [VSub] at h2
    | _ => simp only [VSub] at h2
  | slz id k off A h1 =>
    intro v2 h2
    cases v2 with
    | any => exact .any _
    | r y => simp only [VSub] at h2; exact rsub (.slz id k off A h1) h2
    | sl id' k' off' len' =>
      simp only [VSub] at h2
      obtain ⟨h3, h4, rfl, rfl, rfl⟩ := h2
      exact .slz _ _ _ A h3
    | rp k enc xs i f => simp [VSub] at h2
    | _ => simp only [VSub] at h2
  | mt A =>
    intro v2 h2
    cases v2 with
    | any => exact .any _
    | r y => simp only [VSub] at h2; exact rsub (.mt A) h2
    | mt => exact .mt A
    | sl id k off len =>
      simp only [VSub] at h2
      obtain ⟨h3, rfl, rfl⟩ := h2
      exact .slz id k 0 A h3
    | rp k enc xs i f => simp [VSub] at h2
    | _ => simp only [VSub] at h2
  | rp k enc xs i f b o u hb hlen hcell hrel =>
    intro v2 h2
    cases v2 with
    | any => exact .any _
    | r x => simp [VSub, RSub] at h2
    | rp k' enc' xs' i' f' =>
      simp only [VSub, or_false] at h2
      cases h2
      exact .rp k enc xs i f b o u (hR b hb) hlen hcell fun i x f v h1 h2 => (hrel i x f v h1 h2).mono hR fun _ _ => rfl
    | _ => simp only [VSub] at h2
end Go.Ae
end
section
namespace Go.Ae
set_option linter.unusedVariables false
set_option linter.unusedSimpArgs false

/-- Block b2 tells what b told. -/
def BSub (H : Heap) (F : Nat → Prop) (τ : Nat → Option Nat) (n : Nat) (b2 b : Blk) : Prop :=
  b2.k = b.k ∧ b2.L.length ≤ b.L.length ∧ ∀ (i : Nat) (r2 r : List AV), b2.L[i]? = some r2 → b.L[i]? = some r → LSub H F τ n r2 r

theorem BSub.cells {H : Heap} {F : Nat → Prop} {τ : Nat → Option Nat} {n : Nat} {l2 l : List AV} (h : LSub H F τ n l2 l) : BSub H F τ n (.cells l2) (.cells l) := by
  refine ⟨h.get.1, Nat.le_refl _, fun i r2 r h1 h2 => ?_⟩
  cases i with
  | zero => simp [Blk.L] at h1 h2; subst h1 h2; exact h
  | succ i => simp [Blk.L] at h1

/-- Rows without numbers. -/
theorem LSub.free {H : Heap} {F : Nat → Prop} {τ : Nat → Option Nat} {n : Nat} : ∀ (l : List RV), LSub H F τ n (l.map AV.r) (l.map AV.r)
  | [] => by simp [LSub]
  | x :: l => by
    simp only [List.map_cons, LSub, VSub]
    exact ⟨by simp [RSub], LSub.free l⟩

theorem BSub.rows {H : Heap} {F : Nat → Prop} {τ : Nat → Option Nat} {n : Nat} {α : Type} [Inhabited α] {k : Nat} {renc : α → List RV} {enc : α → List AV} {xs : List α} {b : Blk} (he : ∀ x, enc x = (renc x).map AV.r)
    (hk : b.k = k) (hL : b.L = xs.map enc) : BSub H F τ n (.rows k enc xs) b := by
  refine ⟨hk.symm, by rw [hL]; exact Nat.le_refl _, fun i r2 r h1 h2 => ?_⟩
  rw [hL] at h2
  simp only [Blk.L] at h1
  rw [h1] at h2
  cases h2
  rw [List.getElem?_map, Option.map_eq_some_iff] at h1
  obtain ⟨x, _, rfl⟩ := h1
  rw [he]
  exact LSub.free _

/-- The new telling of a heap. -/
structure HSub (p : Nat) (H : Heap) (F : Nat → Prop) (τ : Nat → Option Nat) (H2 : Heap) : Prop where
  le : p ≤ H2.length
  p : ∀ j, j < p → τ j = some j
  giv : ∀ id, F id → ∀ j, τ j ≠ some id
  inj : ∀ j j' i, τ j = some i → τ j' = some i → j = j'
  blk : ∀ j b2, H2.at j = some b2 → match τ j with
    | some i => ∃ b, H.at i = some b ∧ BSub H F τ H2.length b2 b
    | none => b2.L = []

theorem HSub.sat {p : Nat} {γ : Gh} {w : World} {H H2 : Heap} {F : Nat → Prop} {τ : Nat → Option Nat} (hs : Sat γ w H) (h : HSub p H F τ H2) :
    Sat (γ.re H F τ H2.length) w H2 ∧ Evo p γ H w (γ.re H F τ H2.length) H2 w := by
  have hL : ∀ x, (γ.re H F τ H2.length).L H2 x → ∃ j i b, H2.at j ≠ none ∧ τ j = some i ∧ H.at i = some b ∧ γ.ρ i = some x := by
    rintro x ⟨j, b2, h1, h2⟩
    simp only [Gh.re] at h2
    cases hj : τ j with
    | none => rw [hj] at h2; cases h2
    | some i =>
      rw [hj, Option.bind_some] at h2
      have := h.blk j b2 h1
      rw [hj] at this
      obtain ⟨b, h3, _⟩ := this
      exact ⟨j, i, b, by rw [h1]; simp, hj, h3, h2⟩
  constructor
  · refine ⟨rfl, fun j b2 h1 => ?_, fun j j' b b' x h1 h2 h3 h4 => ?_, fun x hx => ?_⟩
    · have h2 := h.blk j b2 h1
      cases hj : τ j with
      | none =>
        rw [hj] at h2
        simp only [Gh.re, hj, Option.bind_none, BOk]
        exact h2
      | some i =>
        rw [hj] at h2
        obtain ⟨b, h3, hk, hlen, hrows⟩ := h2
        have h4 := hs.blk i b h3
        simp only [Gh.re, hj, Option.bind_some]
        unfold BOk at h4 ⊢
        cases hi : γ.ρ i with
        | none =>
          rw [hi] at h4
          simp only at h4 ⊢
          exact List.length_eq_zero_iff.1 (by rw [h4] at hlen; simpa using hlen)
        | some x =>
          rw [hi] at h4
          obtain ⟨vs, t, h5, h6, h7⟩ := h4
          have hrow : ∀ (q : Nat) (r2 : List AV), b2.L[q]? = some r2 → ∃ r, b.L[q]? = some r ∧ LSub H F τ H2.length r2 r := fun q r2 hq => by
            have hlt : q < b.L.length := Nat.lt_of_lt_of_le (List.getElem?_eq_some_iff.1 hq).1 hlen
            exact ⟨_, List.getElem?_eq_getElem hlt, hrows q r2 _ hq (List.getElem?_eq_getElem hlt)⟩
          refine ⟨vs, t, h5, h6, fun q r2 hq => ?_, by rw [hk]; exact Nat.le_trans (Nat.mul_le_mul_right _ hlen) h7.sz, fun q r2 f v2 u hq hf hu => ?_⟩
          · obtain ⟨r, hr, hsub⟩ := hrow q r2 hq
            rw [hsub.get.1, hk]
            exact h7.len q r hr
          · obtain ⟨r, hr, hsub⟩ := hrow q r2 hq
            rw [hk] at hu
            have hlt : f < r.length := by rw [← hsub.get.1]; exact (List.getElem?_eq_some_iff.1 hf).1
            exact VSub.rel hs (h7.rel q r f _ u hr (List.getElem?_eq_getElem hlt) hu) (hsub.get.2 f v2 _ hf (List.getElem?_eq_getElem hlt))
    · have e1 := hL x ⟨j, b, h1, h3⟩
      have e2 := hL x ⟨j', b', h2, h4⟩
      simp only [Gh.re] at h3 h4
      cases hj : τ j with
      | none => rw [hj] at h3; cases h3
      | some i =>
        cases hj' : τ j' with
        | none => rw [hj'] at h4; cases h4
        | some i' =>
          rw [hj, Option.bind_some] at h3
          rw [hj', Option.bind_some] at h4
          have g1 := h.blk j b h1
          have g2 := h.blk j' b' h2
          rw [hj] at g1
          rw [hj'] at g2
          obtain ⟨c, c1, _⟩ := g1
          obtain ⟨c', c2, _⟩ := g2
          have := hs.inj i i' c c' x c1 c2 h3 h4
          subst this
          exact h.inj j j' i hj hj'
    · rcases hx with hx | ⟨id, b, hF, hb, hx⟩
      · refine ⟨(hs.rd x hx).1, fun hl => ?_⟩
        obtain ⟨j, i, b, _, _, h3, h4⟩ := hL x hl
        exact (hs.rd x hx).2 ⟨i, b, h3, h4⟩
      · refine ⟨hs.lt hb hx, fun hl => ?_⟩
        obtain ⟨j, i, b', _, hj, h3, h4⟩ := hL x hl
        have := hs.inj i id b' b x h3 hb h4 hx
        subst this
        exact h.giv i hF j hj
  · refine ⟨fun j hj => ?_, fun x hx => .inl hx, fun x hx => ?_, fun x hx => ?_, rfl, rfl, rfl, Nat.le_refl _, fun _ _ _ => rfl⟩
    · simp only [Gh.re, h.p j hj, Option.bind_some, and_self]
    · rcases hx with hx | ⟨id, b, _, hb, hx⟩
      · exact .inl hx
      · exact .inr (.inl ⟨id, b, hb, hx⟩)
    · obtain ⟨j, i, b, _, _, h3, h4⟩ := hL x hx
      exact .inl ⟨i, b, h3, h4⟩

/-- A state told as another. -/
def Ent (p : Nat) (s : Slots) (H : Heap) (s2 : Slots) (H2 : Heap) : Prop := ∃ F τ, HSub p H F τ H2 ∧ LSub H F τ H2.length s2 s

theorem Ent.sound {p : Nat} {s s2 : Slots} {H H2 : Heap} (h : Ent p s H s2 H2) {γ : Gh} {w : World} (hs : Sat γ w H) :
    ∃ γ2, Sat γ2 w H2 ∧ Evo p γ H w γ2 H2 w ∧ p ≤ H2.length ∧ s.length = s2.length ∧ ∀ (i : Nat) (v : AV) (v2 : AV) (u : Value), s[i]? = some v → s2[i]? = some v2 → Rel γ w v u → Rel γ2 w v2 u := by
  obtain ⟨F, τ, h1, h2⟩ := h
  obtain ⟨h3, h4⟩ := h1.sat hs
  exact ⟨_, h3, h4, h1.le, h2.get.1.symm, fun i v v2 u a1 a2 a3 => VSub.rel hs a3 (h2.get.2 i v2 v a2 a1)⟩

theorem Tri0.ent {P : Program} {p : Nat} {c : Code} {s s2 : Slots} {H H2 : Heap} {Q : Exit → Slots → Heap → Prop} (h : Ent p s H s2 H2) (ht : Tri0 P p c s2 H2 Q) : Tri0 P p c s H Q := by
  intro γ a w hp hs hr
  obtain ⟨γ2, h1, h2, h3, h4, h5⟩ := h.sound hs
  have hr2 : SRel γ2 w s2 a := ⟨hr.d, by rw [hr.n, h4], fun i v2 u a1 a2 => by
    have hlt : i < s.length := by rw [h4]; exact (List.getElem?_eq_some_iff.1 a1).1
    exact h5 i _ v2 u (List.getElem?_eq_getElem hlt) a1 (hr.r i _ u (List.getElem?_eq_getElem hlt) a2)⟩
  refine wp_mono (ht γ2 a w h3 h1 hr2) ?_
  rintro e a' w' ⟨γ', s', H', q, hp', ev, hs', hr'⟩
  exact ⟨γ', s', H', q, hp', h2.trans ev, hs', hr'⟩

/-- A loop: what holds at each round's head (I j: slots and heap), and a measure. -/
theorem Tri0.loop {P : Program} {p : Nat} {c : Code} {s : Slots} {H : Heap} {Q : Exit → Slots → Heap → Prop} {ι : Type} (I : ι → Slots) (J : ι → Heap) (M : ι → Prop) (μ : ι → Nat) (j0 : ι) (hM : M j0)
    (h0 : Ent p s H (I j0) (J j0)) (round : ∀ j, M j → Tri0 P p c (I j) (J j) (thenQ (fun s' H' => ∃ j', M j' ∧ μ j' < μ j ∧ Ent p s' H' (I j') (J j')) Q)) : Tri0 P p (.loop c) s H Q := by
  refine Tri0.ent h0 ?_
  intro γ a w hp hs hr
  -- the invariant, told of a world
  refine wp_mono (Q := fun e a' w' => ∃ γ' s' H', Q e s' H' ∧ p ≤ H'.length ∧ Evo p γ (J j0) w γ' H' w' ∧ Sat γ' w' H' ∧ SRel γ' w' s' a') ?_ (fun _ _ _ h => h)
  have key : ∀ n j, μ j = n → M j → ∀ γ1 a1 w1, p ≤ (J j).length → Evo p γ (J j0) w γ1 (J j) w1 → Sat γ1 w1 (J j) → SRel γ1 w1 (I j) a1 →
      ∀ (b : Frame) (k : List Item) (cs : List Frame), ∃ e a' w', (∃ γ' s' H', Q e s' H' ∧ p ≤ H'.length ∧ Evo p γ (J j0) w γ' H' w' ∧ Sat γ' w' H' ∧ SRel γ' w' s' a') ∧
        Arrives P (lone (b.at a1 (.code c :: .inLoop c :: k)) cs w1) b k cs e a' w' := by
    intro n
    induction n using Nat.strongRecOn with
    | _ n ih =>
      intro j hn hMj γ1 a1 w1 hp1 ev1 hs1 hr1 b k cs
      obtain ⟨e, a', w', ⟨γ', s', H', q, hp', ev', hs', hr'⟩, harr⟩ := round j hMj γ1 a1 w1 hp1 hs1 hr1 b (.inLoop c :: k) cs
      cases e with
      | normal =>
        obtain ⟨j', hMj', hlt, hent⟩ := q
        obtain ⟨γ2, g1, g2, g3, g4, g5⟩ := hent.sound hs'
        have hr2 : SRel γ2 w' (I j') a' := ⟨hr'.d, by rw [hr'.n, g4], fun i v2 u b1 b2 => by
          have hl : i < s'.length := by rw [g4]; exact (List.getElem?_eq_some_iff.1 b1).1
          exact g5 i _ v2 u (List.getElem?_eq_getElem hl) b1 (hr'.r i _ u (List.getElem?_eq_getElem hl) b2)⟩
        obtain ⟨e₂, a₂, w₂, hq₂, harr₂⟩ := ih (μ j') (hn ▸ hlt) j' rfl hMj' γ2 a' w' g3 ((ev1.trans ev').trans g2) g1 hr2 b k cs
        exact ⟨e₂, a₂, w₂, hq₂, .of_steps (Steps.trans harr (.one step_inLoop)) harr₂⟩
      | exit id => exact ⟨_, a', w', ⟨γ', s', H', q, hp', ev1.trans ev', hs', hr'⟩, .pass (x := .inLoop c) rfl (fun _ _ => .inl (by simp)) harr⟩
      | goto l => exact ⟨_, a', w', ⟨γ', s', H', q, hp', ev1.trans ev', hs', hr'⟩, .pass (x := .inLoop c) rfl (fun _ _ => .inl (by simp)) harr⟩
      | ret => exact ⟨_, a', w', ⟨γ', s', H', q, hp', ev1.trans ev', hs', hr'⟩, .pass (x := .inLoop c) rfl (fun _ _ => .inl (by simp)) harr⟩
      | panic ch => exact ⟨_, a', w', ⟨γ', s', H', q, hp', ev1.trans ev', hs', hr'⟩, .pass (x := .inLoop c) rfl (fun _ _ => .inl (by simp)) harr⟩
      | outgrown => exact ⟨_, a', w', ⟨γ', s', H', q, hp', ev1.trans ev', hs', hr'⟩, .pass (x := .inLoop c) rfl (fun _ _ => .inl (by simp)) harr⟩
  intro b k cs
  obtain ⟨e, a', w', hq, harr⟩ := key _ j0 rfl hM γ a w hp (.refl _ _ _ _) hs hr b k cs
  exact ⟨e, a', w', hq, .of_steps (.one step_loop) harr⟩

/-! ### Functions -/
/-- What a function comes to: the first p numbers of H stand for the same blocks behind it. -/
def Does (P : Program) (f : FuncId) (p : Nat) (args : List AV) (H : Heap) (Post : AV → Heap → Prop) : Prop :=
  ∀ γ w (us : Array Value), Sat γ w H → args.length = us.size → (∀ (i : Nat) (c : AV) (v : Value), args[i]? = some c → us[i]? = some v → Rel γ w c v) →
    Calls P f us w fun e w' => ∃ u γ' v H', e = .returned u ∧ Post v H' ∧ p ≤ H'.length ∧ Evo p γ H w γ' H' w' ∧ Sat γ' w' H' ∧ Rel γ' w' v u

theorem Does.mono {P : Program} {f : FuncId} {p : Nat} {args : List AV} {H : Heap} {K K' : AV → Heap → Prop} (h : Does P f p args H K) (hk : ∀ v H', K v H' → K' v H') : Does P f p args H K' :=
  fun γ w us hs hl hr => (h γ w us hs hl hr).mono fun _ _ ⟨u, γ', v, H', a1, a2, rest⟩ => ⟨u, γ', v, H', a1, hk _ _ a2, rest⟩

/-- A result out of a function's slots. -/
def resV (P : Program) (s : Slots) (H : Heap) : ResultVar → Option AV
  | .tmp t => some (s.getD t .any)
  | .cell a t => match tyOf P t, s.getD a .any with
    | some y, .ptr id k i f => match H.at id with
      | some (.cells l) => if l.length = k ∧ i = 0 ∧ f + y.size ≤ k ∧ (y.agg = false → f < k) then some (packV y l f) else none
      | _ => none
    | _, _ => none

def resAll (P : Program) (s : Slots) (H : Heap) : List ResultVar → Option (List AV)
  | [] => some []
  | r :: rs => match resV P s H r, resAll P s H rs with
    | some v, some vs => some (v :: vs)
    | _, _ => none

def resOne : List AV → AV
  | [v] => v
  | vs => .tup vs

def resRun (tmps : Array Value) : ResultVar → Sem Value
  | .tmp t => pure (tmps.getD t undef)
  | .cell b t => do loadVar t (← asAddr (tmps.getD b undef))

theorem results_eq (fn : Func) (tmps : Array Value) : results fn tmps = (do let vs ← fn.results.mapM (resRun tmps); pure (if h : vs.size = 1 then vs[0] else .tuple vs)) := by
  unfold results
  congr 1

theorem resV_run {P : Program} {γ : Gh} {w : World} {s : Slots} {H : Heap} {a : Act} (hs : Sat γ w H) (hr : SRel γ w s a) {r : ResultVar} {v : AV} (h : resV P s H r = some v) :
    ∃ u, (resRun a.tmps r).run P w = .ok u w ∧ Rel γ w v u := by
  cases r with
  | tmp t =>
    simp only [resV, Option.some.injEq] at h
    subst h
    exact ⟨_, rfl, ev_rel hr (.tmp t)⟩
  | cell b t =>
    simp only [resV] at h
    have hb := ev_rel hr (.tmp b)
    simp only [ev, Act.eval] at hb
    split at h
    · rename_i y id k i f ht he
      rw [he] at hb
      generalize hu : a.tmps.getD b undef = u at hb
      cases hb with
      | ptr _ _ _ _ x hid hx =>
        split at h
        · rename_i l hl
          split at h
          · rename_i hc
            obtain ⟨rfl, rfl, h1, h2⟩ := hc
            simp only [Option.some.injEq] at h
            subst h
            obtain ⟨vs, tt, g2, gm, g3, g4, g5, g6⟩ := own_cell hs (f := f) hl hx (Blk.row_cells l)
            obtain ⟨u, hu', hru⟩ := load_cells (γ := γ) (w := w) ht (x := x) (o := 0 * l.length) h1 h2 fun f v hfv => by
              obtain ⟨u, a1, _, a3⟩ := g6 f v hfv
              exact ⟨u, a1, a3⟩
            exact ⟨u, by simp only [resRun, hu, Sem.run_bind, asAddr, Sem.run_pure, Result.andThen_ok]; exact hu', hru⟩
          · cases h
        · cases h
    · cases h

theorem resAll_run {P : Program} {γ : Gh} {w : World} {s : Slots} {H : Heap} {a : Act} (hs : Sat γ w H) (hr : SRel γ w s a) : ∀ (rs : List ResultVar) (vs : List AV), resAll P s H rs = some vs →
    ∃ us : List Value, (rs.mapM (resRun a.tmps)).run P w = .ok us w ∧ vs.length = us.length ∧ ∀ (i : Nat) (c : AV) (u : Value), vs[i]? = some c → us[i]? = some u → Rel γ w c u
  | [], vs, h => by
    simp only [resAll, Option.some.injEq] at h
    subst h
    exact ⟨[], rfl, rfl, by simp⟩
  | r :: rs, vs, h => by
    simp only [resAll] at h
    split at h
    · rename_i v vs' hv hvs
      simp only [Option.some.injEq] at h
      subst h
      obtain ⟨u, h1, h2⟩ := resV_run hs hr hv
      obtain ⟨us, h3, h4, h5⟩ := resAll_run hs hr rs vs' hvs
      refine ⟨u :: us, ?_, by simp [h4], fun i c x hc hx => ?_⟩
      · rw [List.mapM_cons]
        simp only [Sem.run_bind]
        rw [h1]
        simp only [Result.andThen_ok]
        rw [h3]
        rfl
      · cases i with
        | zero => simp at hc hx; subst hc hx; exact h2
        | succ i => exact h5 i c x (by simpa using hc) (by simpa using hx)
    · cases h

theorem results_run {P : Program} {γ : Gh} {w : World} {s : Slots} {H : Heap} {a : Act} (hs : Sat γ w H) (hr : SRel γ w s a) {fn : Func} {vs : List AV} (h : resAll P s H fn.results.toList = some vs) :
    ∃ u, (results fn a.tmps).run P w = .ok u w ∧ Rel γ w (resOne vs) u := by
  obtain ⟨us, h1, h2, h3⟩ := resAll_run hs hr _ vs h
  have hm : (fn.results.mapM (resRun a.tmps)).run P w = .ok us.toArray w := by
    rw [Array.mapM_eq_mapM_toList, Sem.run_map, h1]
    rfl
  refine ⟨_, by rw [results_eq, Sem.run_bind, hm]; rfl, ?_⟩
  by_cases hl : us.length = 1
  · have hsz : us.toArray.size = 1 := by simpa using hl
    rw [dif_pos hsz]
    obtain ⟨u, rfl⟩ := List.length_eq_one_iff.1 hl
    obtain ⟨v, rfl⟩ := List.length_eq_one_iff.1 (h2.trans hl)
    exact h3 0 v u rfl rfl
  · have hsz : ¬ us.toArray.size = 1 := by simpa using hl
    rw [dif_neg hsz]
    have : resOne vs = .tup vs := by
      unfold resOne
      split
      · rw [← h2] at hl; simp at hl
      · rfl
    rw [this]
    exact .tup vs us.toArray (by simp [h2]) fun i c u hc hu => h3 i c u hc (by simpa using hu)

/-- The body's end. -/
def EndK (P : Program) (p : Nat) (rs : List ResultVar) (Post : AV → Heap → Prop) : Exit → Slots → Heap → Prop
  | .normal, s, H => ∃ vs, resAll P s H rs = some vs ∧ ∃ v2 H2, Ent p [resOne vs] H [v2] H2 ∧ Post v2 H2
  | .ret, s, H => ∃ vs, resAll P s H rs = some vs ∧ ∃ v2 H2, Ent p [resOne vs] H [v2] H2 ∧ Post v2 H2
  | _, _, _ => False

theorem Does.intro {P : Program} {f : FuncId} {fn : Func} {c : Code} {p : Nat} {args : List AV} {H : Heap} {Post : AV → Heap → Prop} (hf : P.funcs[f]? = some fn) (hb : fn.body = some c)
    (hp : p ≤ H.length) (h : Tri0 P p c (args ++ List.replicate (fn.ntmps - args.length) .any) H (EndK P p fn.results.toList Post)) : Does P f p args H Post := by
  intro γ w us hs hl hr
  refine calls_of_wp hf hb (wp_mono (h γ { tmps := us ++ Array.replicate (fn.ntmps - us.size) undef, defers := [] } w hp hs ⟨rfl, by simp [hl], fun i v u h1 h2 => ?_⟩) ?_)
  · by_cases hi : i < args.length
    · rw [List.getElem?_append_left hi] at h1
      rw [Array.getElem?_append_left (by rw [← hl]; exact hi)] at h2
      exact hr i v u h1 h2
    · rw [List.getElem?_append_right (by omega), List.getElem?_replicate] at h1
      split at h1
      · cases h1; exact .any _
      · cases h1
  · have fin : ∀ s' H' γ' a' w', (∃ vs, resAll P s' H' fn.results.toList = some vs ∧ ∃ v2 H2, Ent p [resOne vs] H' [v2] H2 ∧ Post v2 H2) → Evo p γ H w γ' H' w' → Sat γ' w' H' → SRel γ' w' s' a' →
        a'.defers = [] ∧ ∃ v, (results fn a'.tmps).run P w' = .ok v w' ∧ ∃ u γ' v' H', Ending.returned v = .returned u ∧ Post v' H' ∧ p ≤ H'.length ∧ Evo p γ H w γ' H' w' ∧ Sat γ' w' H' ∧ Rel γ' w' v' u := by
      rintro s' H' γ' a' w' ⟨vs, h1, v2, H2, h2, h3⟩ ev hs' hr'
      obtain ⟨u, h4, h5⟩ := results_run hs' hr' h1
      obtain ⟨γ2, g1, g2, g3, g4, g5⟩ := h2.sound hs'
      exact ⟨hr'.d, u, h4, u, γ2, v2, H2, rfl, h3, g3, ev.trans g2, g1, g5 0 _ v2 u rfl rfl h5⟩
    rintro e a' w' ⟨γ', s', H', q, hp', ev, hs', hr'⟩
    cases e with
    | normal => exact fin s' H' γ' a' w' q ev hs' hr'
    | ret => exact fin s' H' γ' a' w' q ev hs' hr'
    | exit id => exact q.elim
    | goto l => exact q.elim
    | panic ch => exact q.elim
    | outgrown => exact q.elim

theorem Does.start {P : Program} {f : FuncId} {fn : Func} {c : Code} {p m : Nat} {rs : Array ResultVar} {args : List AV} {H : Heap} {Post : AV → Heap → Prop} (hf : P.funcs[f]? = some fn) (hn : fn.ntmps = m) (hr : fn.results = rs) (hb : fn.body = some c)
    (hp : p ≤ H.length) (h : Tri0 P p c (args ++ List.replicate (m - args.length) .any) H (EndK P p rs.toList Post)) : Does P f p args H Post := by
  subst hn hr
  exact Does.intro hf hb hp h

mutual
theorem VSub.heap {H H' : Heap} {τ : Nat → Option Nat} {n : Nat} : ∀ {v2 v : AV}, VSub H (fun _ => False) τ n v2 v → VSub H' (fun _ => False) τ n v2 v
  | .any, v, h => by simp only [VSub]
  | .r x, v, h => by
    simp only [VSub] at h ⊢
    unfold RSub at h ⊢
    split at h
    · exact h
    · exact h
    · exact h.1.elim
    · exact h.1.elim
    · exact h.elim
  | .agg cs, v, h => by
    simp only [VSub] at h ⊢
    split at h
    · exact LSub.heap h
    · exact h.elim
  | .tup cs, v, h => by
    simp only [VSub] at h ⊢
    split at h
    · exact LSub.heap h
    · exact h.elim
  | .fn g cs, v, h => by
    simp only [VSub] at h ⊢
    split at h
    · exact ⟨h.1, LSub.heap h.2⟩
    · exact h.elim
  | .ptr id k i f, v, h => by simp only [VSub] at h ⊢; exact h
  | .sl id k off len, v, h => by simp only [VSub] at h ⊢; exact h
  | .slc id k off len c, v, h => by simp only [VSub] at h
  | .mt, v, h => by simp only [VSub] at h ⊢; exact h
  | @AV.rp α inst k enc xs i f, v, h => by
    simp only [VSub] at h ⊢
    rcases h with h | h
    · exact .inl h
    · split at h
      · exact h.1.elim
      · exact h.elim
theorem LSub.heap {H H' : Heap} {τ : Nat → Option Nat} {n : Nat} : ∀ {cs ds : List AV}, LSub H (fun _ => False) τ n cs ds → LSub H' (fun _ => False) τ n cs ds
  | [], ds, h => by simp only [LSub] at h ⊢; exact h
  | c :: cs, [], h => by simp only [LSub] at h
  | c :: cs, d :: ds, h => by
    simp only [LSub] at h ⊢
    exact ⟨VSub.heap h.1, LSub.heap h.2⟩
end

/-- A call of a function that takes and leaves no block of ours. -/
theorem CallA.pure {P : Program} {f : FuncId} {args : List AV} {H : Heap} {K : AV → Heap → Prop} {Φ : AV → Prop} (h : Does P f 0 args [] (fun v H' => Φ v ∧ H' = []))
    (hfree : LSub [] (fun _ => False) (fun _ => none) 0 args args) (hK : ∀ v, Φ v → K v H) : CallA P f args H K := by
  refine ⟨fun γ w us hs hl hr => ?_⟩
  let γ0 : Gh := { ρ := fun _ => none, m := fun _ => 0, R := γ.R, n := 0 }
  have hs0 : Sat γ0 w [] := ⟨rfl, fun id b h => by simp [Heap.at] at h, fun id id' b b' x h => by simp [Heap.at] at h, fun x hx => ⟨(hs.rd x hx).1, fun ⟨id, b, h, _⟩ => by simp [Heap.at] at h⟩⟩
  have hr0 : ∀ (i : Nat) (c : AV) (v : Value), args[i]? = some c → us[i]? = some v → Rel γ0 w c v := fun i c v h1 h2 => by
    have hsub : VSub H (fun _ => False) (fun _ => none) 0 c c := (hfree.get.2 i c c h1 h1).heap
    have h3 := VSub.rel hs (hr i c v h1 h2) hsub
    refine Rel.mono (γ := γ.re H (fun _ => False) (fun _ => none) 0) (γ' := γ0) (Nat.le_refl _) (fun id h => absurd h (Nat.not_lt_zero _)) (fun b hb => ?_) (fun _ _ => rfl) h3
    rcases hb with hb | ⟨_, _, hb, _⟩
    · exact hb
    · exact hb.elim
  refine (h γ0 w us hs0 hl hr0).mono ?_
  rintro e w' ⟨u, γ', v, H', rfl, ⟨hΦ, rfl⟩, hp', ev, hs', hv⟩
  have hn0 : γ'.n = 0 := hs'.n
  have hnoL : ∀ x, ¬ γ0.L [] x := fun x ⟨id, b, h, _⟩ => by simp [Heap.at] at h
  let γ2 : Gh := { ρ := γ.ρ, m := γ.m, R := γ'.R, n := γ.n }
  have hR : ∀ x, γ'.R x → γ.R x ∨ w.heap.size ≤ x := fun x hx => by
    rcases ev.R' x hx with h | h | h
    · exact .inl h
    · exact absurd h (hnoL x)
    · exact .inr h
  have hkeep : ∀ x, x < w.heap.size → w'.heap[x]? = w.heap[x]? := fun x hx => ev.keep x hx (hnoL x)
  have hkR : ∀ b, γ.R b → w'.heap[b]? = w.heap[b]? := fun b hb => hkeep b (hs.rd b hb).1
  refine ⟨u, γ2, v, H, rfl, hK v hΦ, Nat.le_refl _, ⟨fun _ _ => ⟨rfl, rfl⟩, fun x hx => ev.R x hx, fun x hx => (hR x hx).elim .inl fun h => .inr (.inr h), fun x hx => .inl hx, ev.os, ev.tape, ev.output, ev.size,
    fun x hx _ => hkeep x hx⟩, ⟨hs.n, fun id b hb => ?_, hs.inj, fun x hx => ?_⟩, Rel.mono (γ := γ') (γ' := γ2) (by rw [hn0]; exact Nat.zero_le _) (fun id h => by rw [hn0] at h; omega) (fun _ h => h) (fun _ _ => rfl) hv⟩
  · have := hs.blk id b hb
    unfold BOk at this ⊢
    cases hid : γ.ρ id with
    | none => rw [hid] at this; simp only [γ2, hid]; exact this
    | some x =>
      rw [hid] at this
      obtain ⟨vs, t, h1, h2, h3⟩ := this
      simp only [γ2, hid]
      exact ⟨vs, t, by rw [hkeep x (hs.lt hb hid)]; exact h1, h2, BRel.mono (γ := γ) (γ' := γ2) (Nat.le_refl _) (fun _ _ => ⟨rfl, rfl⟩) (fun x hx => ev.R x hx) hkR h3⟩
  · have hlt := (hs'.rd x hx).1
    refine ⟨hlt, fun hl => ?_⟩
    rcases hR x hx with h | h
    · exact (hs.rd x h).2 hl
    · have := hs.L_lt (x := x) hl
      omega
end Go.Ae
end
section
namespace Go.Ae
set_option linter.unusedVariables false
set_option linter.unusedSimpArgs false

/-- Code, from an abstract state (closed to 'intro'). -/
structure Tri (P : Program) (p : Nat) (c : Code) (s : Slots) (H : Heap) (Q : Exit → Slots → Heap → Prop) : Prop where
  run : Tri0 P p c s H Q

section
variable {P : Program} {p : Nat} {s : Slots} {H : Heap} {Q : Exit → Slots → Heap → Prop}
theorem Tri.mono {c : Code} {Q' : Exit → Slots → Heap → Prop} (h : Tri P p c s H Q) (hq : ∀ e s H, Q e s H → Q' e s H) : Tri P p c s H Q' := ⟨Tri0.mono h.run hq⟩
theorem Tri.skip (h : Q .normal s H) : Tri P p .skip s H Q := ⟨Tri0.skip h⟩
theorem Tri.ret (h : Q .ret s H) : Tri P p .ret s H Q := ⟨Tri0.ret h⟩
theorem Tri.exit {id : Nat} (h : Q (.exit id) s H) : Tri P p (.exit id) s H Q := ⟨Tri0.exit h⟩
def thenT (P : Program) (p : Nat) (y : Code) (Q : Exit → Slots → Heap → Prop) : Exit → Slots → Heap → Prop
  | .normal, s, H => Tri P p y s H Q
  | e, s, H => Q e s H
theorem Tri.seq {x y : Code} (h : Tri P p x s H (thenT P p y Q)) : Tri P p (.seq x y) s H Q :=
  ⟨Tri0.seq (Tri0.mono h.run fun e s H hq => by cases e <;> first | exact hq.run | exact hq)⟩
theorem Tri.regSeq {id : Nat} {ops : Array Oper} {y : Code} (h : ∀ K : Slots → Heap → Prop, (∀ s' H', Tri P p y s' H' Q → K s' H') → regK P ops.toList ops.toList s H K) : Tri P p (.seq (.region id ops false) y) s H Q :=
  Tri.seq ⟨Tri0.region (h _ fun _ _ h => h)⟩
theorem Tri.reg {id : Nat} {ops : Array Oper} (h : ∀ K : Slots → Heap → Prop, (∀ s' H', Q .normal s' H' → K s' H') → regK P ops.toList ops.toList s H K) : Tri P p (.region id ops false) s H Q :=
  ⟨Tri0.region (h _ fun _ _ h => h)⟩
theorem Tri.block {id : Nat} {c : Code} (h : Tri P p c s H (blockQ id Q)) : Tri P p (.block id c) s H Q := ⟨Tri0.block h.run⟩
theorem Tri.cond {c : Operand} {x y : Code} {b : Bool} (hc : ev s c = .lit (.bool b)) (ht : b = true → Tri P p x s H Q) (hf : b = false → Tri P p y s H Q) : Tri P p (.cond c x y) s H Q :=
  ⟨Tri0.cond hc (fun h => (ht h).run) (fun h => (hf h).run)⟩
theorem Tri.ent {c : Code} {s2 : Slots} {H2 : Heap} (h : Ent p s H s2 H2) (ht : Tri P p c s2 H2 Q) : Tri P p c s H Q := ⟨Tri0.ent h ht.run⟩
theorem Tri.loop {c : Code} {ι : Type} (I : ι → Slots) (J : ι → Heap) (M : ι → Prop) (μ : ι → Nat) (j0 : ι) (hM : M j0) (h0 : Ent p s H (I j0) (J j0))
    (round : ∀ j, M j → Tri P p c (I j) (J j) (thenQ (fun s' H' => ∃ j', M j' ∧ μ j' < μ j ∧ Ent p s' H' (I j') (J j')) Q)) : Tri P p (.loop c) s H Q :=
  ⟨Tri0.loop I J M μ j0 hM h0 fun j hj => (round j hj).run⟩
end

theorem Does.go {P : Program} {f : FuncId} {fn : Func} {c : Code} {p m : Nat} {rs : Array ResultVar} {args : List AV} {H : Heap} {Post : AV → Heap → Prop} (hf : P.funcs[f]? = some fn) (hn : fn.ntmps = m) (hr : fn.results = rs) (hb : fn.body = some c)
    (hp : p ≤ H.length) (h : Tri P p c (args ++ List.replicate (m - args.length) .any) H (EndK P p rs.toList Post)) : Does P f p args H Post := Does.start hf hn hr hb hp h.run

/-- A function of plain values that hands back V. -/
def Gives (P : Program) (f : FuncId) (args : List AV) (V : AV) : Prop := Does P f 0 args [] fun v H' => v = V ∧ H' = []

theorem CallA.gives {P : Program} {f : FuncId} {args : List AV} {H : Heap} {K : AV → Heap → Prop} {V : AV} (h : Gives P f args V) (hfree : LSub [] (fun _ => False) (fun _ => none) 0 args args) (hK : K V H) : CallA P f args H K :=
  CallA.pure (Φ := fun v => v = V) h hfree fun v hv => hv ▸ hK

/-- The end of a function of plain values. -/
theorem EndK.plain {P : Program} {rs : List ResultVar} {s : Slots} {H : Heap} {vs : List AV} {V : AV} (h : resAll P s H rs = some vs) (hv : VSub H (fun _ => True) (fun _ => none) 0 V (resOne vs)) {e : Exit} (he : e = .normal ∨ e = .ret) :
    EndK P 0 rs (fun v H' => v = V ∧ H' = []) e s H := by
  have hsub : HSub 0 H (fun _ => True) (fun _ => none) ([] : Heap) :=
    ⟨Nat.le_refl _, fun j hj => absurd hj (Nat.not_lt_zero _), fun _ _ _ h => (nomatch h), fun _ _ _ h _ => (nomatch h), fun j b h => by simp [Heap.at] at h⟩
  have hh : ∃ vs, resAll P s H rs = some vs ∧ ∃ v2 H2, Ent 0 [resOne vs] H [v2] H2 ∧ (v2 = V ∧ H2 = []) :=
    ⟨vs, h, V, [], ⟨fun _ => True, fun _ => none, hsub, by simp only [LSub, List.length_nil]; exact ⟨hv, trivial⟩⟩, rfl, rfl⟩
  rcases he with rfl | rfl <;> exact hh
end Go.Ae
end
