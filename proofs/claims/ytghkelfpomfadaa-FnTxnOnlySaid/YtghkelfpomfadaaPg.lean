/- Plain facts on loops that look for something, and on strings. No condition beyond what each lemma states. -/
import Derived.Test.YtghkelfpomfadaaA4
set_option linter.unusedVariables false
set_option linter.unusedSimpArgs false
/-! Loops that look for something: plain facts. -/
namespace Go.Ae
theorem loop_find {ρ : Type} {n : Nat} (L : Nat → Fl ρ Unit) (hit : Nat → Prop) (v : Nat → ρ)
    (h : ∀ i, i < n → (hit i → L i = .ret (v i)) ∧ (¬hit i → L i = L (i + 1))) (h0 : ∀ i, n ≤ i → L i = .go ()) :
    ∀ i, (L i = .go () ∧ ∀ k, i ≤ k → k < n → ¬hit k) ∨ (∃ k, i ≤ k ∧ k < n ∧ hit k ∧ (∀ j, i ≤ j → j < k → ¬hit j) ∧ L i = .ret (v k)) := by
  have key : ∀ m i, n - i = m → (L i = .go () ∧ ∀ k, i ≤ k → k < n → ¬hit k) ∨ (∃ k, i ≤ k ∧ k < n ∧ hit k ∧ (∀ j, i ≤ j → j < k → ¬hit j) ∧ L i = .ret (v k)) := by
    intro m
    induction m with
    | zero => intro i hi; exact .inl ⟨h0 i (by omega), fun k h1 h2 => by omega⟩
    | succ m ih =>
      intro i hi
      by_cases hh : hit i
      · exact .inr ⟨i, Nat.le_refl _, by omega, hh, fun j h1 h2 => by omega, (h i (by omega)).1 hh⟩
      · have e := (h i (by omega)).2 hh
        rcases ih (i + 1) (by omega) with ⟨a, b⟩ | ⟨k, a, b, c, d, f⟩
        · refine .inl ⟨by rw [e, a], fun k h1 h2 => ?_⟩
          by_cases hk : k = i
          · subst hk; exact hh
          · exact b k (by omega) h2
        · refine .inr ⟨k, by omega, b, c, fun j h1 h2 => ?_, by rw [e, f]⟩
          by_cases hj : j = i
          · subst hj; exact hh
          · exact d j (by omega) h2
  exact fun i => key _ i rfl
/-- A loop that hands back the same whatever it finds. -/
theorem loop_all {ρ : Type} {n : Nat} (L : Nat → Fl ρ Unit) (bad : Nat → Prop) (v : ρ)
    (h : ∀ i, i < n → (bad i → L i = .ret v) ∧ (¬bad i → L i = L (i + 1))) (h0 : ∀ i, n ≤ i → L i = .go ()) (i : Nat) :
    (L i = .go () ∧ ∀ k, i ≤ k → k < n → ¬bad k) ∨ (L i = .ret v ∧ ∃ k, i ≤ k ∧ k < n ∧ bad k) := by
  rcases loop_find L bad (fun _ => v) h h0 i with a | ⟨k, a, b, c, _, d⟩
  · exact .inl a
  · exact .inr ⟨d, k, a, b, c⟩
theorem ba_loop (b : ByteArray) : ∀ (m i : Nat) (r : List UInt8), b.size - i = m → ByteArray.toList.loop b i r = r.reverse ++ b.data.toList.drop i := by
  intro m
  induction m with
  | zero =>
    intro i r h
    rw [ByteArray.toList.loop.eq_def, if_neg (by omega), List.drop_eq_nil_of_le (by simp only [Array.length_toList]; show b.size ≤ i; omega)]; simp
  | succ m ih =>
    intro i r h
    have hi : i < b.data.toList.length := by simp only [Array.length_toList]; show i < b.size; omega
    rw [ByteArray.toList.loop.eq_def, if_pos (by omega), ih _ _ (by omega), List.drop_eq_getElem_cons hi]
    simp [ByteArray.get!]
    rw [getElem!_pos b.data i (by simpa using hi)]
theorem ba_toList (b : ByteArray) : b.toList = b.data.toList := by
  have := ba_loop b _ 0 [] rfl
  simpa [ByteArray.toList] using this
theorem ba_inj {a b : ByteArray} (h : a.toList = b.toList) : a = b := by
  rw [ba_toList, ba_toList] at h
  cases a; cases b; simp at h; subst h; rfl
theorem setD_self {α : Type} {a : List α} {i : Nat} {x d : α} (h : i < a.length) : (a.set i x).getD i d = x := by
  simp [List.getD_eq_getElem?_getD, h]
theorem setD_ne {α : Type} {a : List α} {i j : Nat} {x d : α} (h : j ≠ i) : (a.set i x).getD j d = a.getD j d := by
  simp [List.getD_eq_getElem?_getD, List.getElem?_set_ne (Ne.symm h)]
theorem extD {α : Type} {d : α} {a b : List α} (hl : a.length = b.length) (h : ∀ j, j < b.length → a.getD j d = b.getD j d) : a = b := by
  apply List.ext_getElem hl
  intro i h1 h2
  have := h i h2
  simpa [List.getD_eq_getElem?_getD, h1, h2] using this
end Go.Ae
