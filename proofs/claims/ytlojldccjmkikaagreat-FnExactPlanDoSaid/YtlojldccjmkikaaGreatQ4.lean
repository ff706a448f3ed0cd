/- Plain facts on lists of flat structs. -/
import Derived.Test.YtlojldccjmkikaaGreatQ1
import Derived.Test.YtlojldccjmkikaaGreatK2
set_option linter.unusedVariables false
set_option linter.unusedSimpArgs false
/-! Plain facts on lists of flat structs, by a program of our own. -/
namespace Go.Proofs.YtlojldccjmkikaaGreat
open Go.Ae
set_option linter.unusedSimpArgs false
theorem toTableRange_eq (a : GTableRange) : lw_toTableRange a = a := by cases a; rfl
theorem toTableRangeS_L (a : List GTableRange) : ∀ (m : Nat) (out : List GTableRange) (i : Nat), a.length - i = m → out.length = a.length → (∀ j, j < i → out.getD j default = a.getD j default) → lw_toTableRangeS_L1 a out i = a := by
  intro m
  induction m with
  | zero =>
    intro out i hm hl hj
    rw [lw_toTableRangeS_L1, dif_neg (by omega)]
    exact extD hl (fun j h => hj j (by omega))
  | succ m ih =>
    intro out i hm hl hj
    rw [lw_toTableRangeS_L1, dif_pos (by omega)]
    simp only [toTableRange_eq]
    refine ih _ _ (by omega) (by rw [List.length_set]; exact hl) (fun j h => ?_)
    by_cases hji : j = i
    · subst hji; rw [setD_self (by omega)]
    · rw [setD_ne hji]; exact hj j (by omega)
theorem toTableRangeS_eq (a : List GTableRange) : lw_toTableRangeS a = a :=
  toTableRangeS_L a _ _ 0 rfl (by simp) (fun j h => by omega)
theorem eqTableRange_refl (a : GTableRange) : lw_eqTableRange a a = true := by simp [lw_eqTableRange]
theorem eqTableRangeS_refl (a : List GTableRange) : lw_eqTableRangeS a a = true := by
  have h := loop_all (n := a.length) (lw_eqTableRangeS_L1 a a) (fun _ => False) false (fun i hi => by
    rw [lw_eqTableRangeS_L1, dif_pos (by omega), if_neg (by simp [eqTableRange_refl])]
    exact ⟨fun h => h.elim, fun _ => rfl⟩) (fun i hi => by rw [lw_eqTableRangeS_L1, dif_neg (by omega)]) 0
  unfold lw_eqTableRangeS
  rw [if_neg (by simp)]
  simp only [lw_eqTableRangeS_K1]
  rcases h with ⟨e, _⟩ | ⟨_, _, _, _, h⟩
  · rw [e]
  · exact h.elim
theorem markTableRangeS_L : ∀ (m : Nat) (a : List GTableRange) (k : Int) (i : Nat), a.length - i = m → 0 ≤ k → k + 3 * m ≤ 4000000000000 →
    (lw_markTableRangeS_L1 a k i).1.length = a.length ∧ (∀ j, j < i → (lw_markTableRangeS_L1 a k i).1.getD j default = a.getD j default) ∧ lw_heldTableRangeS_L1 (lw_markTableRangeS_L1 a k i).1 k i = .go (lw_markTableRangeS_L1 a k i).2 ∧ (lw_markTableRangeS_L1 a k i).2 = k + 3 * m := by
  intro m
  induction m with
  | zero =>
    intro a k i hm h0 h1
    have e : lw_markTableRangeS_L1 a k i = (a, k) := by rw [lw_markTableRangeS_L1, dif_neg (by omega)]
    rw [e, lw_heldTableRangeS_L1, dif_neg (by simp only; omega)]
    exact ⟨rfl, fun _ _ => rfl, rfl, by simp⟩
  | succ m ih =>
    intro a k i hm h0 h1
    have w1 : wr .i64 (k + 1) = k + 1 := wr_id (by omega) (by omega)
    have w2 : wr .i64 (k + 2) = k + 2 := wr_id (by omega) (by omega)
    have w3 : wr .i64 (k + 3) = k + 3 := wr_id (by omega) (by omega)
    have q1 : wr .i64 (k + 1 + 1) = k + 2 := by rw [Int.add_assoc]; exact w2
    have q2 : wr .i64 (k + 2 + 1) = k + 3 := by rw [Int.add_assoc]; exact w3
    let row : GTableRange := ⟨k, (k + 1), (k + 2)⟩
    have hi : i < a.length := by omega
    have e : lw_markTableRangeS_L1 a k i = lw_markTableRangeS_L1 (a.set i row) (k + 3) (i + 1) := by
      rw [lw_markTableRangeS_L1, dif_pos (by omega)]
      simp only [w1, q1, q2, List.set_set, setD_self hi]
      rfl
    obtain ⟨g1, g2, g3, g4⟩ := ih (a.set i row) (k + 3) (i + 1) (by rw [List.length_set]; omega) (by omega) (by omega)
    rw [e]
    have gr : (lw_markTableRangeS_L1 (a.set i row) (k + 3) (i + 1)).1.getD i default = row := by rw [g2 i (by omega), setD_self hi]
    refine ⟨by rw [g1, List.length_set], fun j hj => by rw [g2 j (by omega), setD_ne (by omega)], ?_, by rw [g4]; omega⟩
    rw [lw_heldTableRangeS_L1, dif_pos (by rw [g1, List.length_set]; omega)]
    simp only [gr, w1, q1, q2]
    rw [if_neg (show ¬(row.Lo ≠ k) by simp [row]), if_neg (show ¬(row.Hi ≠ (k + 1)) by simp [row]), if_neg (show ¬(row.Node ≠ (k + 2)) by simp [row])]
    exact g3
theorem markTableRangeS_held (a : List GTableRange) (k : Int) (h0 : 0 ≤ k) (h1 : k + 3 * a.length ≤ 4000000000000) :
    lw_heldTableRangeS (lw_markTableRangeS a k).2 k = (lw_markTableRangeS a k).1 ∧ (lw_markTableRangeS a k).1 = k + 3 * a.length := by
  obtain ⟨_, _, g3, g4⟩ := markTableRangeS_L a.length a k 0 (by omega) h0 h1
  simp only [lw_markTableRangeS, lw_markTableRangeS_K1, lw_heldTableRangeS, lw_heldTableRangeS_K1]
  rw [g3]
  exact ⟨rfl, g4⟩
theorem toPlanSeen_eq (a : GPlanSeen) : lw_toPlanSeen a = a := by cases a; rfl
theorem toPlanSeenS_L (a : List GPlanSeen) : ∀ (m : Nat) (out : List GPlanSeen) (i : Nat), a.length - i = m → out.length = a.length → (∀ j, j < i → out.getD j default = a.getD j default) → lw_toPlanSeenS_L1 a out i = a := by
  intro m
  induction m with
  | zero =>
    intro out i hm hl hj
    rw [lw_toPlanSeenS_L1, dif_neg (by omega)]
    exact extD hl (fun j h => hj j (by omega))
  | succ m ih =>
    intro out i hm hl hj
    rw [lw_toPlanSeenS_L1, dif_pos (by omega)]
    simp only [toPlanSeen_eq]
    refine ih _ _ (by omega) (by rw [List.length_set]; exact hl) (fun j h => ?_)
    by_cases hji : j = i
    · subst hji; rw [setD_self (by omega)]
    · rw [setD_ne hji]; exact hj j (by omega)
theorem toPlanSeenS_eq (a : List GPlanSeen) : lw_toPlanSeenS a = a :=
  toPlanSeenS_L a _ _ 0 rfl (by simp) (fun j h => by omega)
theorem eqPlanSeen_refl (a : GPlanSeen) : lw_eqPlanSeen a a = true := by simp [lw_eqPlanSeen]
theorem eqPlanSeenS_refl (a : List GPlanSeen) : lw_eqPlanSeenS a a = true := by
  have h := loop_all (n := a.length) (lw_eqPlanSeenS_L1 a a) (fun _ => False) false (fun i hi => by
    rw [lw_eqPlanSeenS_L1, dif_pos (by omega), if_neg (by simp [eqPlanSeen_refl])]
    exact ⟨fun h => h.elim, fun _ => rfl⟩) (fun i hi => by rw [lw_eqPlanSeenS_L1, dif_neg (by omega)]) 0
  unfold lw_eqPlanSeenS
  rw [if_neg (by simp)]
  simp only [lw_eqPlanSeenS_K1]
  rcases h with ⟨e, _⟩ | ⟨_, _, _, _, h⟩
  · rw [e]
  · exact h.elim
theorem markPlanSeenS_L : ∀ (m : Nat) (a : List GPlanSeen) (k : Int) (i : Nat), a.length - i = m → 0 ≤ k → k + 3 * m ≤ 4000000000000 →
    (lw_markPlanSeenS_L1 a k i).1.length = a.length ∧ (∀ j, j < i → (lw_markPlanSeenS_L1 a k i).1.getD j default = a.getD j default) ∧ lw_heldPlanSeenS_L1 (lw_markPlanSeenS_L1 a k i).1 k i = .go (lw_markPlanSeenS_L1 a k i).2 ∧ (lw_markPlanSeenS_L1 a k i).2 = k + 3 * m := by
  intro m
  induction m with
  | zero =>
    intro a k i hm h0 h1
    have e : lw_markPlanSeenS_L1 a k i = (a, k) := by rw [lw_markPlanSeenS_L1, dif_neg (by omega)]
    rw [e, lw_heldPlanSeenS_L1, dif_neg (by simp only; omega)]
    exact ⟨rfl, fun _ _ => rfl, rfl, by simp⟩
  | succ m ih =>
    intro a k i hm h0 h1
    have w1 : wr .i64 (k + 1) = k + 1 := wr_id (by omega) (by omega)
    have w2 : wr .i64 (k + 2) = k + 2 := wr_id (by omega) (by omega)
    have w3 : wr .i64 (k + 3) = k + 3 := wr_id (by omega) (by omega)
    have q1 : wr .i64 (k + 1 + 1) = k + 2 := by rw [Int.add_assoc]; exact w2
    have q2 : wr .i64 (k + 2 + 1) = k + 3 := by rw [Int.add_assoc]; exact w3
    let row : GPlanSeen := ⟨k, (k + 1), (k + 2)⟩
    have hi : i < a.length := by omega
    have e : lw_markPlanSeenS_L1 a k i = lw_markPlanSeenS_L1 (a.set i row) (k + 3) (i + 1) := by
      rw [lw_markPlanSeenS_L1, dif_pos (by omega)]
      simp only [w1, q1, q2, List.set_set, setD_self hi]
      rfl
    obtain ⟨g1, g2, g3, g4⟩ := ih (a.set i row) (k + 3) (i + 1) (by rw [List.length_set]; omega) (by omega) (by omega)
    rw [e]
    have gr : (lw_markPlanSeenS_L1 (a.set i row) (k + 3) (i + 1)).1.getD i default = row := by rw [g2 i (by omega), setD_self hi]
    refine ⟨by rw [g1, List.length_set], fun j hj => by rw [g2 j (by omega), setD_ne (by omega)], ?_, by rw [g4]; omega⟩
    rw [lw_heldPlanSeenS_L1, dif_pos (by rw [g1, List.length_set]; omega)]
    simp only [gr, w1, q1, q2]
    rw [if_neg (show ¬(row.Session ≠ k) by simp [row]), if_neg (show ¬(row.Call ≠ (k + 1)) by simp [row]), if_neg (show ¬(row.Code ≠ (k + 2)) by simp [row])]
    exact g3
theorem markPlanSeenS_held (a : List GPlanSeen) (k : Int) (h0 : 0 ≤ k) (h1 : k + 3 * a.length ≤ 4000000000000) :
    lw_heldPlanSeenS (lw_markPlanSeenS a k).2 k = (lw_markPlanSeenS a k).1 ∧ (lw_markPlanSeenS a k).1 = k + 3 * a.length := by
  obtain ⟨_, _, g3, g4⟩ := markPlanSeenS_L a.length a k 0 (by omega) h0 h1
  simp only [lw_markPlanSeenS, lw_markPlanSeenS_K1, lw_heldPlanSeenS, lw_heldPlanSeenS_K1]
  rw [g3]
  exact ⟨rfl, g4⟩
end Go.Proofs.YtlojldccjmkikaaGreat
