/- The functions that the law FnExactToldAt comes to, in plain Lean: at every list of commands  the law's function answers true. -/
import Derived.Test.YtlojldccjmkikaaPFnExactToldAtx5
namespace Go.Proofs.Ytlojldccjmkikaa.PFnExactToldAt
open Go.RowKit Go.Proofs.YtlojldccjmkikaaW.PrintWords
set_option linter.unusedVariables false
set_option linter.unusedSimpArgs false

theorem wrap64_id {n : Int} (h0 : -9223372036854775808 ≤ n) (h1 : n ≤ 9223372036854775807) : wrap64 n = n := by
  simp only [wrap64]
  omega

def conv (x : S78) : S79 := ⟨x.f0, x.f1, x.f2, x.f3, x.f4, x.f5⟩

/-! ### toCmdS -/
theorem toCmdS_loop (xs : List S78) (hx : xs.length ≤ 1048576) : ∀ (n i : Nat) (ys : List S79) (k : Nat), xs.length - i = n → i ≤ xs.length → n < k → ys.length = xs.length →
    laws_toCmdS.l0 k xs ys (i : Int) = some (ys.take i ++ (xs.drop i).map conv)
  | 0, i, ys, 0, hn, hi, hk, hy => absurd hk (Nat.not_lt_zero _)
  | n, i, ys, k + 1, hn, hi, hk, hy => by
    unfold laws_toCmdS.l0
    by_cases h : i < xs.length
    · rw [if_pos (by omega), if_pos (by omega)]
      simp only [laws_toCmd.f, Option.bind_some]
      rw [if_pos (by omega), wrap64_id (by omega) (by omega)]
      obtain ⟨n, rfl⟩ : ∃ m, n = m + 1 := ⟨n - 1, by omega⟩
      have hc : ((i : Int) + 1) = ((i + 1 : Nat) : Int) := by omega
      rw [hc, toCmdS_loop xs hx n (i + 1) _ k (by omega) (by omega) (by omega) (by simpa using hy)]
      congr 1
      have hd : xs.drop i = xs[i] :: xs.drop (i + 1) := List.drop_eq_getElem_cons h
      have hr : rd_T78 xs (i : Int) = xs[i] := by simp [rd_T78, h]
      rw [hd, hr]
      simp only [Int.toNat_natCast, List.map_cons]
      rw [List.take_add_one, List.getElem?_set_self (by omega), List.take_set_of_le (Nat.le_refl _)]
      simp [conv]
    · rw [if_neg (by omega)]
      have : i = xs.length := by omega
      subst this
      simp [List.take_of_length_le (Nat.le_of_eq hy)]

theorem toCmdS_eq (xs : List S78) (hx : xs.length ≤ 1048576) (k : Nat) (hk : xs.length < k) : laws_toCmdS.f k xs = some (xs.map conv) := by
  unfold laws_toCmdS.f
  rw [if_pos (by omega), if_pos (by omega)]
  have := toCmdS_loop xs hx xs.length 0 (List.replicate ((xs.length : Int)).toNat z79) k (by omega) (by omega) hk (by simp)
  simpa using this

/-! ### szCmdS -/
theorem szCmdS_loop (xs : List S78) (hx : xs.length ≤ 1048576) : ∀ (n i : Nat) (a : Int) (k : Nat), xs.length - i = n → i ≤ xs.length → n < k → ∃ r, laws_szCmdS.l0 k xs a (i : Int) = some r
  | 0, i, a, 0, hn, hi, hk => absurd hk (Nat.not_lt_zero _)
  | n, i, a, k + 1, hn, hi, hk => by
    unfold laws_szCmdS.l0
    by_cases h : i < xs.length
    · rw [if_pos (by omega), if_pos (by omega)]
      obtain ⟨t, ht⟩ : ∃ t, laws_szCmd.f (rd_T78 xs i).f0 (rd_T78 xs i).f1 (rd_T78 xs i).f2 (rd_T78 xs i).f3 (rd_T78 xs i).f4 (rd_T78 xs i).f5 a = some t := by
        unfold laws_szCmd.f
        split <;> exact ⟨_, rfl⟩
      rw [ht, Option.bind_some]
      split
      · exact ⟨_, rfl⟩
      · rw [wrap64_id (by omega) (by omega)]
        obtain ⟨n, rfl⟩ : ∃ m, n = m + 1 := ⟨n - 1, by omega⟩
        have hc : ((i : Int) + 1) = ((i + 1 : Nat) : Int) := by omega
        rw [hc]
        exact szCmdS_loop xs hx n (i + 1) t k (by omega) (by omega) (by omega)
    · rw [if_neg (by omega)]
      exact ⟨_, rfl⟩

/-- Too many: negative. Else: some number. -/
theorem szCmdS_eq (xs : List S78) (hx : xs.length ≤ 9223372036854775807) (k : Nat) (hk : xs.length < k) : ∃ r, laws_szCmdS.f k xs 1048576 = some r ∧ (¬ r < 0 → xs.length ≤ 1048576) := by
  unfold laws_szCmdS.f
  rw [wrap64_id (by omega) (by omega)]
  split
  · exact ⟨_, rfl, fun h => absurd (by decide) h⟩
  · obtain ⟨r, hr⟩ := szCmdS_loop xs (by omega) xs.length 0 (1048576 - (xs.length : Int)) k (by omega) (by omega) hk
    exact ⟨r, by simpa using hr, fun _ => by omega⟩

/-! ### eqCmdS -/
theorem eqCmdS_loop (xs : List S79) (hx : xs.length ≤ 1048576) : ∀ (n i : Nat) (k : Nat), xs.length - i = n → i ≤ xs.length → n < k → laws_eqCmdS.l0 k xs xs (i : Int) = some true
  | 0, i, 0, hn, hi, hk => absurd hk (Nat.not_lt_zero _)
  | n, i, k + 1, hn, hi, hk => by
    unfold laws_eqCmdS.l0
    by_cases h : i < xs.length
    · rw [if_pos (by omega), if_pos (by omega), if_pos (by omega)]
      simp only [laws_eqCmd.f, if_true, Option.bind_some]
      rw [wrap64_id (by omega) (by omega)]
      obtain ⟨n, rfl⟩ : ∃ m, n = m + 1 := ⟨n - 1, by omega⟩
      have hc : ((i : Int) + 1) = ((i + 1 : Nat) : Int) := by omega
      rw [hc]
      exact eqCmdS_loop xs hx n (i + 1) k (by omega) (by omega) (by omega)
    · rw [if_neg (by omega)]

theorem eqCmdS_eq (xs : List S79) (hx : xs.length ≤ 1048576) (k : Nat) (hk : xs.length < k) : laws_eqCmdS.f k xs xs = some true := by
  unfold laws_eqCmdS.f
  rw [if_pos rfl]
  have := eqCmdS_loop xs hx xs.length 0 k (by omega) (by omega) hk
  simpa using this

/-! ### The forms -/
theorem full_eq (k : Nat) (hk : 10 ≤ k) : spec_l2Full.f k = some 31 := by
  obtain ⟨j, rfl⟩ : ∃ j, k = j + 10 := ⟨k - 10, by omega⟩
  simp [spec_l2Full.f, spec_l2Bit.f, spec_l2Bit.l0, wrap64]

/-- In form, neither empty nor eight. -/
def form (a b c d e : Int) (s : ByteArray) : Bool :=
  decide (1 ≤ a) && decide (a ≤ 7) && decide (0 ≤ b) && decide (b ≤ 3) && decide (1 ≤ c) && decide (c ≤ 9999) &&
    (if a = 1 then decide ((s.size : Int) ≤ 160) && decide (d = 0) && decide (e = 0) else decide (s.toList = []) && decide (0 ≤ d) && decide (d ≤ 40) && decide (0 ≤ e) && decide (e ≤ 31))

theorem l3Form_eq (k : Nat) (hk : 11 ≤ k) (a b c d e : Int) (s : ByteArray) : ∃ r, spec_l3Form.f k a b c d e s = some r ∧ (a ≠ 0 → a ≠ 8 → r = form a b c d e s) := by
  obtain ⟨j, rfl⟩ : ∃ j, k = j + 1 := ⟨k - 1, by omega⟩
  have hf := full_eq j (by omega)
  by_cases h0 : a = 0
  · exact ⟨_, by rw [spec_l3Form.f, if_pos h0], fun h => absurd h0 h⟩
  by_cases h8 : a = 8
  · exact ⟨_, by rw [spec_l3Form.f, if_neg h0, if_pos h8], fun _ h => absurd h8 h⟩
  refine ⟨form a b c d e s, ?_, fun _ _ => rfl⟩
  simp only [spec_l3Form.f, if_neg h0, if_neg h8, spec_l6In.f, spec_l3Form.j0, form]
  by_cases h1 : 1 ≤ a <;> by_cases h2 : a ≤ 7 <;> by_cases h3 : 0 ≤ b <;> by_cases h4 : b ≤ 3 <;> by_cases h5 : 1 ≤ c <;> by_cases h6 : c ≤ 9999 <;> simp [h1, h2, h3, h4, h5, h6] <;>
    (by_cases h7 : a = 1 <;> simp [h7] <;> by_cases h8 : s.toList = [] <;> by_cases h9 : 0 ≤ d <;> by_cases h10 : d ≤ 40 <;> by_cases h11 : 0 ≤ e <;> by_cases h12 : e ≤ 31 <;> by_cases h13 : (s.size : Int) ≤ 160 <;> by_cases h14 : d = 0 <;> by_cases h15 : e = 0 <;> simp_all [hf] <;> first | (rw [if_pos (by omega)]; simp; omega) | (rw [if_neg (by omega)]; simp; omega))

theorem inForm_eq (k : Nat) (hk : 1 ≤ k) (a b c d e : Int) (s : ByteArray) (h0 : a ≠ 0) (h8 : a ≠ 8) : impl_Cmd_inForm.f k a b c d e s = some (form a b c d e s) := by
  obtain ⟨j, rfl⟩ : ∃ j, k = j + 1 := ⟨k - 1, by omega⟩
  have h8' : (a == 8) = false := by simpa using h8
  simp only [impl_Cmd_inForm.f, impl_isSession.f, impl_isCall.f, impl_in.f, impl_Cmd_inForm.j0, impl_Cmd_empty.f, if_neg h0, h8', form]
  by_cases h7 : a = 1
  · by_cases h3 : 0 ≤ b <;> by_cases h4 : b ≤ 3 <;> by_cases h5 : 1 ≤ c <;> by_cases h6 : c ≤ 9999 <;> by_cases h13 : (s.size : Int) ≤ 160 <;> by_cases h14 : d = 0 <;> by_cases h15 : e = 0 <;> simp [h3, h4, h5, h6, h7, h13, h14, h15]
  · by_cases h1 : 1 ≤ a
    · have h2' : 2 ≤ a := by omega
      by_cases h2 : a ≤ 7 <;> by_cases h3 : 0 ≤ b <;> by_cases h4 : b ≤ 3 <;> by_cases h5 : 1 ≤ c <;> by_cases h6 : c ≤ 9999 <;> simp [h1, h2, h2', h3, h4, h5, h6, h7] <;>
        (by_cases h8 : s.toList = [] <;> by_cases h9 : 0 ≤ d <;> by_cases h10 : d ≤ 40 <;> by_cases h11 : 0 ≤ e <;> by_cases h12 : e ≤ 31 <;> simp [h8, h9, h10, h11, h12])
    · have h2' : ¬ 2 ≤ a := by omega
      by_cases h3 : 0 ≤ b <;> by_cases h4 : b ≤ 3 <;> by_cases h5 : 1 ≤ c <;> by_cases h6 : c ≤ 9999 <;> simp [h1, h2', h3, h4, h5, h6, h7]

theorem told_loop (xs : List S79) (hx : xs.length ≤ 1048576) (a1 a2 : Int) : ∀ (n i : Nat) (k : Nat), xs.length - i = n → i ≤ xs.length → 2 * n + 20 < k →
    ∃ r, spec_ToldAt.l0 k xs a1 a2 (i : Int) = some r ∧ impl_toldAt.l0 k a1 a2 xs (xs.length : Int) (i : Int) = some r
  | n, i, 0, hn, hi, hk => absurd hk (Nat.not_lt_zero _)
  | n, i, 1, hn, hi, hk => absurd hk (by omega)
  | 0, i, k + 2, hn, hi, hk => by
    unfold spec_ToldAt.l0 impl_toldAt.l0
    rw [if_neg (by omega), if_neg (by omega)]
    exact ⟨0, rfl, rfl⟩
  | n + 1, i, k + 2, hn, hi, hk => by
    obtain ⟨r, hr1, hr2⟩ := told_loop xs hx a1 a2 n (i + 1) k (by omega) (by omega) (by omega)
    have hc : ((i : Int) + 1) = ((i + 1 : Nat) : Int) := by omega
    have hw : wrap64 ((i : Int) + 1) = (i : Int) + 1 := wrap64_id (by omega) (by omega)
    rw [← hc] at hr1 hr2
    have h0 : (i : Int) < (xs.length : Int) := by omega
    have h1 : (0 : Int) ≤ (i : Int) := by omega
    unfold spec_ToldAt.l0 impl_toldAt.l0
    rw [if_pos h0, if_pos h1, if_pos h0, if_pos h1, if_pos h0]
    generalize rd_T79 xs (i : Int) = x
    obtain ⟨f, hf, hff⟩ := l3Form_eq (k + 1) (by omega) x.f0 x.f1 x.f2 x.f3 x.f4 x.f5
    rw [hf, Option.bind_some]
    by_cases e0 : x.f0 = 0
    · refine ⟨r, ?_, ?_⟩
      · cases f <;> simp [e0, spec_ToldAt.j1, hw, hr1]
      · simp [impl_Cmd_empty.f, e0, impl_toldAt.j1, hw, hr2]
    by_cases e8 : x.f0 = 8
    · refine ⟨r, ?_, ?_⟩
      · cases f <;> simp [e8, spec_ToldAt.j1, hw, hr1]
      · simp [impl_Cmd_empty.f, e8, impl_toldAt.j1, hw, hr2]
    rw [inForm_eq (k + 1) (by omega) _ _ _ _ _ _ e0 e8, ← hff e0 e8]
    have hem : impl_Cmd_empty.f x.f0 x.f1 x.f2 x.f3 x.f4 x.f5 = some false := by simp [impl_Cmd_empty.f, e0, e8]
    rw [hem]
    simp only [Option.bind_some, Bool.false_eq_true, if_false]
    cases f with
    | false => exact ⟨r, by simp [spec_ToldAt.j1, hw, hr1], by simp [impl_toldAt.j1, hw, hr2]⟩
    | true =>
      simp only [if_true, if_neg e0, if_neg e8]
      by_cases e1 : x.f1 = a1
      · by_cases e2 : x.f2 = a2
        · exact ⟨wrap64 ((i : Int) + 1), by simp [spec_ToldAt.j1, e1, e2], by simp [impl_toldAt.j1, e1, e2]⟩
        · by_cases e3 : x.f2 > a2
          · have e4 : x.f2 ≥ a2 := by omega
            exact ⟨0, by simp [spec_ToldAt.j1, e1, e2, e3], by simp [impl_toldAt.j1, e1, e2, e4]⟩
          · have e4 : ¬ x.f2 ≥ a2 := by omega
            exact ⟨r, by simp [spec_ToldAt.j1, e1, e2, e3, hw, hr1], by simp [impl_toldAt.j1, e1, e2, e4, hw, hr2]⟩
      · have e1' : (x.f1 != a1) = true := by simpa using e1
        exact ⟨r, by simp [spec_ToldAt.j1, e1', hw, hr1], by simp [impl_toldAt.j1, if_neg e1, hw, hr2]⟩

theorem told_eq (xs : List S79) (hx : xs.length ≤ 1048576) (a1 a2 : Int) (k : Nat) (hk : 2 * xs.length + 20 < k) : ∃ r, spec_ToldAt.f k xs a1 a2 = some r ∧ impl_ToldAt.f k xs a1 a2 = some r := by
  unfold spec_ToldAt.f impl_ToldAt.f
  split
  · exact ⟨0, rfl, rfl⟩
  · obtain ⟨r, h1, h2⟩ := told_loop xs hx a1 a2 xs.length 0 k (by omega) (by omega) hk
    exact ⟨r, by simpa using h1, by simp only [impl_toldAt.f]; have h2' := h2; simp only [Int.natCast_zero, Int.ofNat_eq_natCast] at h2'; simp [h2']⟩

/-- The law's function: true at every list. -/
theorem law_true (xs : List S78) (hx : xs.length ≤ 9223372036854775807) (a1 a2 : Int) : ∃ k, laws_FnExactToldAt.f k xs a1 a2 = some true := by
  refine ⟨2 * xs.length + 30, ?_⟩
  obtain ⟨r, h1, h2⟩ := szCmdS_eq xs hx (2 * xs.length + 30) (by omega)
  unfold laws_FnExactToldAt.f
  rw [h1, Option.bind_some]
  split
  · rfl
  · rename_i hr
    have hl := h2 hr
    rw [toCmdS_eq xs hl _ (by omega), Option.bind_some]
    obtain ⟨t, h3, h4⟩ := told_eq (xs.map conv) (by simpa using hl) a1 a2 (2 * xs.length + 30) (by simp)
    rw [h3, Option.bind_some, Option.bind_some, h4, Option.bind_some, if_pos rfl, Option.bind_some, eqCmdS_eq _ (by simpa using hl) _ (by simp; omega)]
    rfl
end Go.Proofs.Ytlojldccjmkikaa.PFnExactToldAt
