/- Plain facts on tables of the reference. -/
import Derived.Test.YtlojldccjmkikaaGreatG2
set_option linter.unusedVariables false
set_option linter.unusedSimpArgs false
namespace Go.Proofs.YtlojldccjmkikaaGreat
open Go.Ae
theorem l2Copy_eq (t : GTable) : sp_l2Copy t = t := by simp [sp_l2Copy]
theorem l2At_L (t : GTable) (key : Int) : ∀ (m i : Nat), t.Ranges.length - i = m → match sp_l2At_L1 key t i with
    | .ret r => (i : Int) ≤ r ∧ r < t.Ranges.length
    | .go _ => True := by
  intro m
  induction m with
  | zero => intro i h; rw [sp_l2At_L1, dif_neg (by omega)]; trivial
  | succ m ih =>
    intro i h
    have := ih (i + 1) (by omega)
    rw [sp_l2At_L1, dif_pos (by omega)]
    grind
theorem l2At_bd (t : GTable) (key : Int) : sp_l2At t key = -1 ∨ (0 ≤ sp_l2At t key ∧ sp_l2At t key < t.Ranges.length) := by
  have := l2At_L t key _ 0 rfl
  simp only [sp_l2At, sp_l2At_K1]
  revert this
  cases sp_l2At_L1 key t 0 <;> intro this
  · right; simp only at this ⊢; omega
  · left; rfl
theorem l2At_lt {t : GTable} {key : Int} (h : 0 ≤ sp_l2At t key) : sp_l2At t key < t.Ranges.length := by
  rcases l2At_bd t key with h1 | h1 <;> omega
theorem l2May_mem {t : GTable} (h : sp_l2May t = 0) : 1 ≤ t.Members ∧ t.Members ≤ 31 ∧ t.Ranges.length ≤ 8 ∧ 1 ≤ t.Epoch ∧ t.Epoch < 9999 ∧ sp_TableOk t = true := by
  grind [sp_l2May, sp_TableOk]
theorem l2Has_bd {m n : Int} (h : sp_l2Has m n = true) : 0 ≤ n ∧ n ≤ 4 := by
  simp only [sp_l2Has, Bool.and_eq_true] at h
  exact l6In_iff.1 h.1
end Go.Proofs.YtlojldccjmkikaaGreat
