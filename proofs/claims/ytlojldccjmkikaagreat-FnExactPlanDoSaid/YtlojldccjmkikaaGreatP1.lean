/- Plain facts on tables: what is ok, and that the two sides' changes are one. -/
import Derived.Test.YtlojldccjmkikaaGreatI4
import Derived.Test.YtlojldccjmkikaaGreatG5
set_option linter.unusedVariables false
set_option linter.unusedSimpArgs false
section
/-! Plain facts on tables: what is ok, and that the two sides' changes are one. -/
namespace Go.Proofs.YtlojldccjmkikaaGreat
open Go.Ae
/-- Ranges one behind the other from p to q, each kept by one of the members. -/
def okP (mem : Int) : Int → List GTableRange → Int → Prop
  | p, [], q => p = q
  | p, r :: rs, q => r.Lo = p ∧ p < r.Hi ∧ r.Hi ≤ 40 ∧ sp_l2Has mem r.Node = true ∧ okP mem r.Hi rs q
theorem okP_append {mem : Int} : ∀ {A B : List GTableRange} {p q : Int}, okP mem p (A ++ B) q ↔ ∃ m, okP mem p A m ∧ okP mem m B q
  | [], B, p, q => by simp [okP]
  | r :: A, B, p, q => by
    simp only [List.cons_append, okP, okP_append (A := A)]
    constructor
    · rintro ⟨h1, h2, h3, h4, m, h5, h6⟩; exact ⟨m, ⟨h1, h2, h3, h4, h5⟩, h6⟩
    · rintro ⟨m, ⟨h1, h2, h3, h4, h5⟩, h6⟩; exact ⟨h1, h2, h3, h4, m, h5, h6⟩
theorem drop_cons {α : Type} [Inhabited α] (l : List α) (i : Nat) (h : i < l.length) : l.drop i = l.getD i default :: l.drop (i + 1) := by
  rw [List.drop_eq_getElem_cons h, List.getD_eq_getElem?_getD, List.getElem?_eq_getElem h]; rfl
theorem spOk_L (t : GTable) : ∀ (m : Nat) (at_ : Int) (i : Nat), t.Ranges.length - i = m → (match sp_TableOk_L1 t at_ i with | .ret r => r = true | .go q => q = 40) = (okP t.Members at_ (t.Ranges.drop i) 40) := by
  intro m
  induction m with
  | zero =>
    intro at_ i h
    rw [sp_TableOk_L1, dif_neg (by omega), List.drop_eq_nil_of_le (by omega)]
    rfl
  | succ m ih =>
    intro at_ i h
    rw [sp_TableOk_L1, dif_pos (by omega), drop_cons _ _ (by omega)]
    simp only [okP]
    by_cases hc : ((((t.Ranges.getD i default).Lo ≠ at_ ∨ (t.Ranges.getD i default).Hi ≤ (t.Ranges.getD i default).Lo) ∨ (t.Ranges.getD i default).Hi > 40) ∨ sp_l2Has t.Members (t.Ranges.getD i default).Node = false)
    · rw [if_pos hc]
      simp only [Bool.false_eq_true, false_iff, eq_iff_iff]
      rintro ⟨h1, h2, h3, h4, -⟩
      rcases hc with ((hc | hc) | hc) | hc
      · exact hc h1
      · omega
      · omega
      · rw [hc] at h4; cases h4
    · rw [if_neg hc]
      simp only [not_or, Int.not_le, Int.not_lt, Decidable.not_not, Bool.not_eq_false] at hc
      rw [ih _ (i + 1) (by omega)]
      obtain ⟨⟨⟨h1, h2⟩, h3⟩, h4⟩ := hc
      simp only [h1, h4, true_and, eq_iff_iff]
      constructor
      · intro h; exact ⟨by omega, by omega, h⟩
      · intro h; exact h.2.2
def OkT (t : GTable) : Prop := (1 ≤ t.Epoch ∧ t.Epoch ≤ 9999) ∧ (1 ≤ t.Members ∧ t.Members ≤ 31) ∧ (1 ≤ t.Ranges.length ∧ t.Ranges.length ≤ 8) ∧ okP t.Members 0 t.Ranges 40
theorem spOk_iff (t : GTable) : sp_TableOk t = true ↔ OkT t := by
  have h := spOk_L t _ 0 0 rfl
  rw [List.drop_zero] at h
  unfold OkT
  rw [← h]
  simp only [sp_TableOk, sp_TableOk_K1, l2Full_val]
  split
  · rename_i hc
    simp only [Bool.false_eq_true, false_iff]
    rintro ⟨h1, h2, h3, -⟩
    rcases hc with (hc | hc) | hc
    · rw [l6In_iff.2 h1] at hc; cases hc
    · rw [l6In_iff.2 h2] at hc; cases hc
    · rw [l6In_iff.2 (by omega)] at hc; cases hc
  · rename_i hc
    simp only [not_or, Bool.not_eq_false, l6In_iff] at hc
    obtain ⟨⟨h1, h2⟩, h3⟩ := hc
    simp only [h1, h2, true_and]
    have h4 : 1 ≤ t.Ranges.length ∧ t.Ranges.length ≤ 8 := by omega
    simp only [h4, true_and]
    cases sp_TableOk_L1 t 0 0 with
    | ret r => simp
    | go q => simp
theorem has_eq {m n : Int} (h0 : 0 ≤ m) (h1 : m ≤ 31) : im_has m n = sp_l2Has m n := by
  unfold im_has sp_l2Has im_isNode
  rw [im_in_eq]
  by_cases h : sp_l6In n 0 4 = true
  · have hb := l6In_bd h
    have hm : min n.toNat 64 = n.toNat := Nat.min_eq_left (by omega)
    have h8 := tdiv_bd h0 (pow2_pos n.toNat)
    rw [hm, fdiv_tdiv h0 (pow2_pos _), and_one (by omega) (by omega), l2Bit_val hb.1 (by omega)]
    rw [wr_id (n := m.tdiv (2 ^ n.toNat)) (by omega) (by omega), Int.tmod_eq_emod_of_nonneg (by omega)]
  · simp only [Bool.not_eq_true] at h; rw [h]; rfl
theorem imOk_L (t : GTable) (hm : 0 ≤ t.Members ∧ t.Members ≤ 31) : ∀ (m : Nat) (lo : Int) (i : Nat), t.Ranges.length - i = m → 0 ≤ lo → lo ≤ 40 → (match im_TableOk_L1 t lo i with | .ret r => r = true | .go q => q = 40) = (okP t.Members lo (t.Ranges.drop i) 40) := by
  intro m
  induction m with
  | zero =>
    intro lo i h _ _
    rw [im_TableOk_L1, dif_neg (by omega), List.drop_eq_nil_of_le (by omega)]
    rfl
  | succ m ih =>
    intro lo i h hl0 hl1
    rw [im_TableOk_L1, dif_pos (by omega), drop_cons _ _ (by omega)]
    simp only [okP, has_eq hm.1 hm.2]
    by_cases hc : (((t.Ranges.getD i default).Lo ≠ lo ∨ im_in (t.Ranges.getD i default).Hi (wr .i64 (lo + 1)) 40 = false) ∨ sp_l2Has t.Members (t.Ranges.getD i default).Node = false)
    · rw [if_pos hc]
      simp only [Bool.false_eq_true, eq_iff_iff, false_iff]
      rintro ⟨h1, h2, h3, h4, -⟩
      rcases hc with (hc | hc) | hc
      · exact hc h1
      · rw [wr_id (by omega) (by omega), im_in_iff.2 (by omega)] at hc; cases hc
      · rw [hc] at h4; cases h4
    · rw [if_neg hc]
      simp only [not_or, Decidable.not_not, Bool.not_eq_false, im_in_iff] at hc
      obtain ⟨⟨h1, h2⟩, h4⟩ := hc
      rw [wr_id (by omega) (by omega)] at h2
      rw [ih _ (i + 1) (by omega) (by omega) (by omega)]
      simp only [h1, h4, true_and, eq_iff_iff]
      constructor
      · intro h; exact ⟨by omega, by omega, h⟩
      · intro h; exact h.2.2
theorem imOk_iff (t : GTable) : im_TableOk t = true ↔ OkT t := by
  by_cases hm : 1 ≤ t.Members ∧ t.Members ≤ 31
  · have h := imOk_L t ⟨by omega, hm.2⟩ _ 0 0 rfl (by omega) (by omega)
    rw [List.drop_zero] at h
    unfold OkT
    rw [← h]
    have h0 := imOk_ret t _ 0 0 rfl
    simp only [im_TableOk, im_TableOk_K1]
    revert h0
    cases im_TableOk_L1 t 0 0 with
    | ret r => intro h0; simp at h0; simp [h0]
    | go q =>
      intro _
      simp only [Bool.and_eq_true, im_in_iff, beq_iff_eq]
      constructor
      · rintro ⟨⟨⟨h1, h2⟩, h3⟩, h4⟩; exact ⟨h1, h2, by omega, h4⟩
      · rintro ⟨h1, h2, h3, h4⟩; exact ⟨⟨⟨h1, h2⟩, by omega⟩, h4⟩
  · constructor
    · intro h; have := im_TableOk_len h; omega
    · intro h; exact absurd h.2.1 hm
theorem ok_eq (t : GTable) : im_TableOk t = sp_TableOk t := by
  have h1 := imOk_iff t
  have h2 := spOk_iff t
  cases h3 : im_TableOk t <;> cases h4 : sp_TableOk t <;> simp_all
end Go.Proofs.YtlojldccjmkikaaGreat
end
section
/-! The changes of a table: closed forms, that the program's and the reference's are one, and that what is ok stays ok. -/
namespace Go.Proofs.YtlojldccjmkikaaGreat
open Go.Ae
theorem okP_le {mem : Int} : ∀ {A : List GTableRange} {p q : Int}, okP mem p A q → p ≤ q
  | [], p, q, h => by simp only [okP] at h; omega
  | r :: A, p, q, h => by
    simp only [okP] at h
    have := okP_le h.2.2.2.2
    omega
theorem split_at {R : List GTableRange} {n : Nat} (h : n < R.length) : R = R.take n ++ R.getD n default :: R.drop (n + 1) := by
  rw [← drop_cons _ _ h, List.take_append_drop]
theorem set_at {R : List GTableRange} {n : Nat} (h : n < R.length) (v : GTableRange) : R.set n v = R.take n ++ v :: R.drop (n + 1) := by
  apply List.ext_getElem?; intro k; grind
theorem at_L (t : GTable) (key : Int) : ∀ (m i : Nat), t.Ranges.length - i = m → match sp_l2At_L1 key t i with
    | .ret r => ∃ k : Nat, r = (k : Int) ∧ k < t.Ranges.length ∧ sp_l6In key (t.Ranges.getD k default).Lo (wr .i64 ((t.Ranges.getD k default).Hi - 1)) = true
    | .go _ => True := by
  intro m
  induction m with
  | zero => intro i h; rw [sp_l2At_L1, dif_neg (by omega)]; trivial
  | succ m ih =>
    intro i h
    rw [sp_l2At_L1, dif_pos (by omega)]
    by_cases hc : sp_l6In key (t.Ranges.getD i default).Lo (wr .i64 ((t.Ranges.getD i default).Hi - 1)) = true
    · rw [if_pos hc]; exact ⟨i, rfl, by omega, hc⟩
    · rw [if_neg hc]; exact ih (i + 1) (by omega)
/-- Where a key's range is. -/
theorem at_some {t : GTable} {key : Int} (hok : OkT t) (h : 0 ≤ sp_l2At t key) : ∃ n : Nat, sp_l2At t key = (n : Int) ∧ n < t.Ranges.length ∧ (t.Ranges.getD n default).Lo ≤ key ∧ key < (t.Ranges.getD n default).Hi ∧
    0 ≤ (t.Ranges.getD n default).Lo ∧ (t.Ranges.getD n default).Hi ≤ 40 ∧ okP t.Members 0 (t.Ranges.take n) (t.Ranges.getD n default).Lo ∧ sp_l2Has t.Members (t.Ranges.getD n default).Node = true ∧
    okP t.Members (t.Ranges.getD n default).Hi (t.Ranges.drop (n + 1)) 40 := by
  have h1 := at_L t key _ 0 rfl
  simp only [sp_l2At, sp_l2At_K1] at h ⊢
  revert h h1
  cases sp_l2At_L1 key t 0 with
  | go q => intro h _; simp only at h; omega
  | ret r =>
    rintro - ⟨n, rfl, h2, h3⟩
    refine ⟨n, rfl, h2, ?_⟩
    have h4 := hok.2.2.2
    rw [split_at h2, okP_append] at h4
    obtain ⟨m, h5, h6⟩ := h4
    simp only [okP] at h6
    obtain ⟨g1, g2, g3, g4, g5⟩ := h6
    have g6 := okP_le h5
    rw [l6In_iff, wr_id (by omega) (by omega)] at h3
    exact ⟨h3.1, by omega, by omega, g3, by rw [g1]; exact h5, g4, g5⟩
theorem may_ok {t : GTable} (h : OkT t) (h1 : t.Epoch < 9999) : sp_l2May t = 0 := by
  unfold sp_l2May; rw [(spOk_iff t).2 h]; simp; omega
theorem may_full {t : GTable} (h : OkT t) (h1 : t.Epoch = 9999) : sp_l2May t = 4 := by
  unfold sp_l2May; rw [(spOk_iff t).2 h]; simp; omega
theorem may_bad {t : GTable} (h : ¬OkT t) : sp_l2May t = 10 := by
  have : sp_TableOk t = false := by cases hc : sp_TableOk t; rfl; exact absurd ((spOk_iff t).1 hc) h
  unfold sp_l2May; rw [this]; simp
theorem none_ok {t : GTable} (h : OkT t) : sp_l2None t = t := by
  unfold sp_l2None; rw [(spOk_iff t).2 h, l2Copy_eq]; simp
theorem none_bad {t : GTable} (h : ¬OkT t) : sp_l2None t = ⟨0, 0, []⟩ := by
  have : sp_TableOk t = false := by cases hc : sp_TableOk t; rfl; exact absurd ((spOk_iff t).1 hc) h
  unfold sp_l2None; rw [this]; simp
theorem bad_im {t : GTable} (h : ¬OkT t) : im_TableOk t = false := by
  cases hc : im_TableOk t; rfl; exact absurd ((imOk_iff t).1 hc) h
/-- What an answer of a change is. -/
def Good (t : GTable) (x : GTable × Int) : Prop := (¬OkT t → x = (⟨0, 0, []⟩, 10)) ∧ (OkT t → x.2 ≠ 0 → x.1 = t) ∧ (x.2 = 0 → OkT x.1 ∧ x.1.Epoch = t.Epoch + 1)
theorem Good.bad {t : GTable} (h : ¬OkT t) : Good t (⟨0, 0, []⟩, 10) := ⟨fun _ => rfl, fun h1 => absurd h1 h, fun h => by simp at h⟩
theorem Good.same {t : GTable} {c : Int} (h : OkT t) (hc : c ≠ 0) : Good t (t, c) := ⟨fun h1 => absurd h h1, fun _ _ => rfl, fun h => absurd h hc⟩
theorem Good.done {t x : GTable} (h : OkT t) (h1 : OkT x) (h2 : x.Epoch = t.Epoch + 1) : Good t (x, 0) := ⟨fun g => absurd h g, fun _ g => absurd rfl g, fun _ => ⟨h1, h2⟩⟩
/-! ### Split -/
theorem split_L1 (t : GTable) (i at_ : Int) : ∀ (m k : Nat) (out : GTable), t.Ranges.length - k = m → i < (k : Int) → sp_TableSplit_L1 t i at_ out k = { out with Ranges := out.Ranges ++ t.Ranges.drop k } := by
  intro m
  induction m with
  | zero => intro k out h hi; rw [sp_TableSplit_L1, dif_neg (by omega), List.drop_eq_nil_of_le (by omega), List.append_nil]
  | succ m ih =>
    intro k out h hi
    rw [sp_TableSplit_L1, dif_pos (by omega), drop_cons _ _ (by omega)]
    simp only []
    rw [if_neg (by omega), ih (k + 1) _ (by omega) (by omega)]
    simp
theorem split_L2 (t : GTable) (at_ : Int) (n : Nat) (hn : n < t.Ranges.length) : ∀ (m k : Nat) (out : GTable), n - k = m → k ≤ n → sp_TableSplit_L1 t n at_ out k =
    { out with Ranges := out.Ranges ++ (t.Ranges.take n).drop k ++ [⟨(t.Ranges.getD n default).Lo, at_, (t.Ranges.getD n default).Node⟩, ⟨at_, (t.Ranges.getD n default).Hi, (t.Ranges.getD n default).Node⟩] ++ t.Ranges.drop (n + 1) } := by
  intro m
  induction m with
  | zero =>
    intro k out h hk
    have : k = n := by omega
    subst this
    rw [sp_TableSplit_L1, dif_pos (by omega)]
    simp only []
    rw [if_pos trivial, split_L1 t k at_ _ (k + 1) _ rfl (by omega)]
    simp
  | succ m ih =>
    intro k out h hk
    rw [sp_TableSplit_L1, dif_pos (by omega)]
    simp only []
    rw [if_neg (by omega), ih (k + 1) _ (by omega) (by omega)]
    have e : (t.Ranges.take n).drop k = t.Ranges.getD k default :: (t.Ranges.take n).drop (k + 1) := by
      rw [drop_cons _ _ (by rw [List.length_take]; omega)]
      congr 1
      rw [List.getD_eq_getElem?_getD, List.getElem?_take, if_pos (by omega), List.getD_eq_getElem?_getD]
    rw [e]
    simp
def splitT (t : GTable) (at_ : Int) (n : Nat) : GTable := ⟨t.Epoch + 1, t.Members, t.Ranges.take n ++ [⟨(t.Ranges.getD n default).Lo, at_, (t.Ranges.getD n default).Node⟩, ⟨at_, (t.Ranges.getD n default).Hi, (t.Ranges.getD n default).Node⟩] ++ t.Ranges.drop (n + 1)⟩
theorem split_both (t : GTable) (at_ : Int) : im_TableSplit t at_ = sp_TableSplit t at_ ∧ Good t (sp_TableSplit t at_) := by
  unfold im_TableSplit
  by_cases hok : OkT t
  · have hi := (imOk_iff t).2 hok
    by_cases he : t.Epoch = 9999
    · have h1 : sp_TableSplit t at_ = (t, 4) := by rw [sp_TableSplit, if_pos (by rw [may_full hok he]; omega), none_ok hok, may_full hok he]
      have h2 : im_changed_f_im_TableSplit_1 t at_ = (t, 4) := by rw [im_changed_f_im_TableSplit_1, if_neg (by rw [hi]; simp), if_pos he, copied_eq]
      rw [h1, h2]
      exact ⟨rfl, .same hok (by omega)⟩
    · have he2 := hok.1
      have hm := may_ok hok (by omega)
      have key : (sp_TableSplit t at_ = (t, 3) ∧ im_TableSplit_1 t at_ = (3, t)) ∨ (sp_TableSplit t at_ = (t, 4) ∧ im_TableSplit_1 t at_ = (4, t)) ∨
          ∃ x : GTable, OkT { x with Epoch := t.Epoch + 1 } ∧ x.Epoch = t.Epoch ∧ sp_TableSplit t at_ = ({ x with Epoch := t.Epoch + 1 }, 0) ∧ im_TableSplit_1 t at_ = (0, x) := by
        rw [sp_TableSplit, if_neg (by rw [hm]; simp), im_TableSplit_1, rangeOf_eq]
        simp only [l2Copy_eq]
        by_cases h1 : sp_l2At t at_ < 0 ∨ (t.Ranges.getD (sp_l2At t at_).toNat default).Lo = at_
        · rw [if_pos h1, if_pos h1]; exact .inl ⟨rfl, rfl⟩
        · rw [if_neg h1, if_neg h1]
          by_cases h2 : (t.Ranges.length : Int) = 8
          · rw [if_pos (by omega), if_pos h2]; exact .inr (.inl ⟨rfl, rfl⟩)
          · rw [if_neg (by have := hok.2.2.1; omega), if_neg h2]
            obtain ⟨n, hn, hl, g1, g2, g3, g4, g5, g6, g7⟩ := at_some hok (key := at_) (by omega)
            have hlo : (t.Ranges.getD n default).Lo ≠ at_ := by rw [hn, Int.toNat_natCast] at h1; exact fun e => h1 (.inr e)
            have hw : (wr .i64 ((n : Int) + 1)).toNat = n + 1 := by have := hok.2.2.1; rw [wr_id (by omega) (by omega)]; omega
            refine .inr (.inr ⟨⟨t.Epoch, t.Members, (splitT t at_ n).Ranges⟩, ⟨by simp only []; omega, hok.2.1, ?_, ?_⟩, rfl, ?_, ?_⟩)
            · simp only [splitT, List.length_append, List.length_take, List.length_drop, List.length_cons, List.length_nil]
              have := hok.2.2.1
              omega
            · simp only [splitT]
              rw [List.append_assoc, okP_append]
              refine ⟨_, g5, ?_⟩
              simp only [List.cons_append, List.nil_append, okP]
              exact ⟨trivial, by omega, by omega, g6, trivial, g2, g4, g6, g7⟩
            · rw [sp_TableSplit_K1, hn, split_L2 t at_ n hl _ 0 _ rfl (by omega)]
              simp [sp_l2Next, splitT, wr_id (n := t.Epoch + 1) (by omega) (by omega)]
            · rw [hn]
              simp only [slices_Insert_TableRange, hw, Int.toNat_natCast, set_at hl, splitT]
              simp only [Prod.mk.injEq, GTable.mk.injEq, true_and]
              apply List.ext_getElem?; intro k; grind
      have hc : im_changed_f_im_TableSplit_1 t at_ = sp_TableSplit t at_ ∧ Good t (sp_TableSplit t at_) := by
        rw [im_changed_f_im_TableSplit_1, if_neg (by rw [hi]; simp), if_neg he]
        simp only [copied_eq]
        rcases key with ⟨k1, k2⟩ | ⟨k1, k2⟩ | ⟨x, kx, ke, k1, k2⟩
        · rw [k1, k2]; exact ⟨by simp, .same hok (by omega)⟩
        · rw [k1, k2]; exact ⟨by simp, .same hok (by omega)⟩
        · rw [k1, k2]
          have hw : wr .i64 (x.Epoch + 1) = t.Epoch + 1 := by rw [ke, wr_id (by omega) (by omega)]
          exact ⟨by simp [hw], .done hok kx rfl⟩
      exact ⟨by rw [hc.1], hc.2⟩
  · have h1 : sp_TableSplit t at_ = (⟨0, 0, []⟩, 10) := by rw [sp_TableSplit, if_pos (by rw [may_bad hok]; omega), none_bad hok, may_bad hok]
    have h2 : im_changed_f_im_TableSplit_1 t at_ = (⟨0, 0, []⟩, 10) := by rw [im_changed_f_im_TableSplit_1, if_pos (bad_im hok)]
    rw [h1, h2]
    exact ⟨rfl, .bad hok⟩
end Go.Proofs.YtlojldccjmkikaaGreat
end
section
/-! The other changes of a table. -/
namespace Go.Proofs.YtlojldccjmkikaaGreat
open Go.Ae
theorem both_of {t : GTable} {f : GTable → Int × GTable} {sp imc : GTable × Int} (hbad : ¬OkT t → sp = (⟨0, 0, []⟩, 10)) (hfull : OkT t → t.Epoch = 9999 → sp = (t, 4))
    (himc : imc = if (im_TableOk t) = false then (⟨0, 0, []⟩, 10) else if t.Epoch = 9999 then (im_Table_copied t, 4) else
      if (f (im_Table_copied t)).1 ≠ 0 then (im_Table_copied t, (f (im_Table_copied t)).1) else ({ (f (im_Table_copied t)).2 with Epoch := wr .i64 ((f (im_Table_copied t)).2.Epoch + 1) }, 0))
    (key : OkT t → t.Epoch < 9999 → (∃ c, c ≠ 0 ∧ sp = (t, c) ∧ f t = (c, t)) ∨ (∃ x : GTable, OkT { x with Epoch := t.Epoch + 1 } ∧ x.Epoch = t.Epoch ∧ sp = ({ x with Epoch := t.Epoch + 1 }, 0) ∧ f t = (0, x))) :
    imc = sp ∧ Good t sp := by
  subst himc
  rw [copied_eq]
  by_cases hok : OkT t
  · have hi := (imOk_iff t).2 hok
    rw [if_neg (by rw [hi]; simp)]
    by_cases he : t.Epoch = 9999
    · rw [if_pos he, hfull hok he]; exact ⟨rfl, .same hok (by omega)⟩
    · rw [if_neg he]
      have he2 := hok.1
      rcases key hok (by omega) with ⟨c, hc, k1, k2⟩ | ⟨x, kx, ke, k1, k2⟩
      · rw [k1, k2]; exact ⟨by simp [hc], .same hok hc⟩
      · rw [k1, k2]
        have hw : wr .i64 (x.Epoch + 1) = t.Epoch + 1 := by rw [ke, wr_id (by omega) (by omega)]
        exact ⟨by simp [hw], .done hok kx rfl⟩
  · rw [if_pos (bad_im hok), hbad hok]
    exact ⟨rfl, .bad hok⟩
theorem next_eq {x t : GTable} (h : x.Epoch = t.Epoch) (h1 : 1 ≤ t.Epoch) (h2 : t.Epoch < 9999) : sp_l2Next x = { x with Epoch := t.Epoch + 1 } := by
  unfold sp_l2Next; rw [h, wr_id (by omega) (by omega)]
/-! ### Move -/
theorem move_both (t : GTable) (at_ to_ : Int) : im_TableMove t at_ to_ = sp_TableMove t at_ to_ ∧ Good t (sp_TableMove t at_ to_) := by
  refine both_of (f := fun x => im_TableMove_1 x at_ to_) (fun hok => by rw [sp_TableMove, if_pos (by rw [may_bad hok]; omega), none_bad hok, may_bad hok])
    (fun hok he => by rw [sp_TableMove, if_pos (by rw [may_full hok he]; omega), none_ok hok, may_full hok he]) rfl fun hok he => ?_
  rw [sp_TableMove, if_neg (by rw [may_ok hok he]; simp), im_TableMove_1, rangeOf_eq, has_eq (by have := hok.2.1; omega) hok.2.1.2]
  simp only [l2Copy_eq]
  by_cases h1 : sp_l2At t at_ < 0
  · rw [if_pos h1, if_pos h1]; exact .inl ⟨3, by omega, rfl, rfl⟩
  rw [if_neg h1, if_neg h1]
  by_cases h2 : sp_l2Has t.Members to_ = false
  · rw [if_pos h2, if_pos h2]; exact .inl ⟨6, by omega, rfl, rfl⟩
  rw [if_neg h2, if_neg h2]
  by_cases h3 : (t.Ranges.getD (sp_l2At t at_).toNat default).Node = to_
  · rw [if_pos h3, if_pos h3]; exact .inl ⟨7, by omega, rfl, rfl⟩
  rw [if_neg h3, if_neg h3]
  obtain ⟨n, hn, hl, g1, g2, g3, g4, g5, g6, g7⟩ := at_some hok (key := at_) (by omega)
  rw [hn, Int.toNat_natCast]
  refine .inr ⟨⟨t.Epoch, t.Members, t.Ranges.set n { t.Ranges.getD n default with Node := to_ }⟩, ⟨?_, hok.2.1, ?_, ?_⟩, rfl, ?_, rfl⟩
  · have := hok.1; simp only []; omega
  · rw [List.length_set]; exact hok.2.2.1
  · rw [set_at hl, okP_append]
    refine ⟨_, g5, ?_⟩
    simp only [okP]
    exact ⟨trivial, by omega, g4, by simpa using h2, g7⟩
  · have hep := hok.1
    simp only [sp_l2Next]; rw [wr_id (by omega) (by omega)]
/-! ### Merge -/
theorem merge_both (t : GTable) (at_ : Int) : im_TableMerge t at_ = sp_TableMerge t at_ ∧ Good t (sp_TableMerge t at_) := by
  refine both_of (f := fun x => im_TableMerge_1 x at_) (fun hok => by rw [sp_TableMerge, if_pos (by rw [may_bad hok]; omega), none_bad hok, may_bad hok])
    (fun hok he => by rw [sp_TableMerge, if_pos (by rw [may_full hok he]; omega), none_ok hok, may_full hok he]) rfl fun hok he => ?_
  rw [sp_TableMerge, if_neg (by rw [may_ok hok he]; simp), im_TableMerge_1, rangeOf_eq]
  simp only [l2Copy_eq]
  by_cases h1 : sp_l2At t at_ < 1 ∨ (t.Ranges.getD (sp_l2At t at_).toNat default).Lo ≠ at_
  · rw [if_pos h1, if_pos h1]; exact .inl ⟨3, by omega, rfl, rfl⟩
  rw [if_neg h1, if_neg h1]
  by_cases h2 : (t.Ranges.getD (wr .i64 (sp_l2At t at_ - 1)).toNat default).Node ≠ (t.Ranges.getD (sp_l2At t at_).toNat default).Node
  · rw [if_pos h2, if_pos (fun e => h2 e.symm)]; exact .inl ⟨5, by omega, rfl, rfl⟩
  rw [if_neg h2, if_neg (fun e => h2 fun e' => e e'.symm)]
  obtain ⟨n, hn, hl, g1, g2, g3, g4, g5, g6, g7⟩ := at_some hok (key := at_) (by omega)
  have hlen := hok.2.2.1
  rw [hn] at h1 h2 ⊢
  have hw1 : wr .i64 ((n : Int) - 1) = ((n - 1 : Nat) : Int) := by rw [wr_id (by omega) (by omega)]; omega
  have hw2 : wr .i64 ((n : Int) + 1) = ((n + 1 : Nat) : Int) := by rw [wr_id (by omega) (by omega)]; omega
  rw [hw1] at h2 ⊢
  rw [hw2]
  simp only [Int.toNat_natCast, slices_Delete_TableRange] at h2 ⊢
  have hn1 : 1 ≤ n := by omega
  have hRn : (t.Ranges.set (n - 1) { t.Ranges.getD (n - 1) default with Hi := (t.Ranges.getD n default).Hi }).take n ++ (t.Ranges.set (n - 1) { t.Ranges.getD (n - 1) default with Hi := (t.Ranges.getD n default).Hi }).drop (n + 1) =
      t.Ranges.take (n - 1) ++ [{ t.Ranges.getD (n - 1) default with Hi := (t.Ranges.getD n default).Hi }] ++ t.Ranges.drop (n + 1) := by
    apply List.ext_getElem?; intro k; grind
  have hT : t.Ranges.take n = t.Ranges.take (n - 1) ++ [t.Ranges.getD (n - 1) default] := by
    have h := split_at (R := t.Ranges.take n) (n := n - 1) (by rw [List.length_take]; omega)
    rw [h, List.take_take, Nat.min_eq_left (by omega)]
    rw [List.drop_eq_nil_of_le (by rw [List.length_take]; omega)]
    congr 2
    rw [List.getD_eq_getElem?_getD, List.getElem?_take, if_pos (by omega), List.getD_eq_getElem?_getD]
  rw [hT, okP_append] at g5
  obtain ⟨m, k1, k2⟩ := g5
  simp only [okP] at k2
  obtain ⟨q1, q2, q3, q4, q5⟩ := k2
  refine .inr ⟨⟨t.Epoch, t.Members, (t.Ranges.set (n - 1) { t.Ranges.getD (n - 1) default with Hi := (t.Ranges.getD n default).Hi }).take n ++ (t.Ranges.set (n - 1) { t.Ranges.getD (n - 1) default with Hi := (t.Ranges.getD n default).Hi }).drop (n + 1)⟩, ⟨?_, hok.2.1, ?_, ?_⟩, rfl, ?_, rfl⟩
  · have := hok.1; simp only []; omega
  · rw [hRn]; simp only [List.length_append, List.length_take, List.length_drop, List.length_cons, List.length_nil]; omega
  · rw [hRn, List.append_assoc, okP_append]
    refine ⟨_, k1, ?_⟩
    simp only [List.cons_append, List.nil_append, okP]
    exact ⟨q1, by omega, g4, q4, g7⟩
  · have hep := hok.1
    simp only [sp_l2Next]; rw [wr_id (by omega) (by omega)]
end Go.Proofs.YtlojldccjmkikaaGreat
end
section
/-! Who joins and who leaves. -/
namespace Go.Proofs.YtlojldccjmkikaaGreat
open Go.Ae
def hasN (m k : Nat) : Bool := m / 2 ^ k % 2 == 1
theorem has_nat (m k : Nat) (hm : m ≤ 31) (hk : k ≤ 4) : sp_l2Has m k = hasN m k := by
  unfold sp_l2Has hasN
  have hp : (0 : Int) < 2 ^ k := pow2_pos k
  have hb := tdiv_bd (a := (m : Int)) (b := 2 ^ k) (by omega) hp
  rw [l6In_iff.2 (by omega), l2Bit_val (by omega) (by omega), Int.toNat_natCast, wr_id (by omega) (by omega)]
  have e1 : (m : Int).tdiv (2 ^ k) = ((m / 2 ^ k : Nat) : Int) := by
    rw [Int.tdiv_eq_ediv_of_nonneg (by omega)]; push_cast; rfl
  have e2 : ((m / 2 ^ k : Nat) : Int).tmod 2 = ((m / 2 ^ k % 2 : Nat) : Int) := by
    rw [Int.tmod_eq_emod_of_nonneg (by omega)]; push_cast; rfl
  rw [e1, e2, Bool.true_and]
  by_cases h : m / 2 ^ k % 2 = 1
  · rw [h]; rfl
  · have : m / 2 ^ k % 2 = 0 := by omega
    rw [this]; rfl
theorem join_fin : ∀ m : Fin 32, ∀ n k : Fin 5, hasN m n = false → (m : Nat) + 2 ^ (n : Nat) ≤ 31 ∧ (hasN m k = true → hasN ((m : Nat) + 2 ^ (n : Nat)) k = true) := by decide
theorem leave_fin : ∀ m : Fin 32, ∀ n k : Fin 5, hasN m n = true → 2 ^ (n : Nat) ≤ (m : Nat) ∧ (k ≠ n → hasN m k = true → hasN ((m : Nat) - 2 ^ (n : Nat)) k = true) := by decide
theorem or_fin : ∀ m : Fin 32, ∀ n : Fin 5, hasN m n = false → bitsOf .or .i64 ((m : Nat) : Int) (2 ^ (n : Nat)) = ((m : Nat) + 2 ^ (n : Nat) : Nat) := by decide
theorem and_fin : ∀ m : Fin 32, ∀ n : Fin 5, hasN m n = true → bitsOf .andNot .i64 ((m : Nat) : Int) (2 ^ (n : Nat)) = ((m : Nat) - 2 ^ (n : Nat) : Nat) := by decide
theorem okP_mono {mem mem' : Int} : ∀ {A : List GTableRange} {p q : Int}, (∀ r, r ∈ A → sp_l2Has mem r.Node = true → sp_l2Has mem' r.Node = true) → okP mem p A q → okP mem' p A q
  | [], p, q, _, h => h
  | r :: A, p, q, hm, h => by
    simp only [okP] at h ⊢
    exact ⟨h.1, h.2.1, h.2.2.1, hm r (by simp) h.2.2.2.1, okP_mono (fun x hx => hm x (by simp [hx])) h.2.2.2.2⟩
theorem bit_im {n : Nat} (h : n ≤ 4) : wr .i64 (1 * 2 ^ (min ((n : Int)).toNat 64)) = (2 : Int) ^ n := by
  rw [Int.toNat_natCast, Nat.min_eq_left (by omega), Int.one_mul]
  have : (2 : Int) ^ n ≤ 2 ^ 4 := by
    have : (2 : Nat) ^ n ≤ 2 ^ 4 := Nat.pow_le_pow_right (by decide) h
    exact_mod_cast this
  have := pow2_pos n
  rw [wr_id (by omega) (by omega)]
theorem mem_bd {t : GTable} (hok : OkT t) : ∃ m : Nat, t.Members = (m : Int) ∧ 1 ≤ m ∧ m ≤ 31 := ⟨t.Members.toNat, by have := hok.2.1; omega, by have := hok.2.1; omega, by have := hok.2.1; omega⟩
theorem join_both (t : GTable) (node : Int) : im_TableJoin t node = sp_TableJoin t node ∧ Good t (sp_TableJoin t node) := by
  refine both_of (f := fun x => im_TableJoin_1 x node) (fun hok => by rw [sp_TableJoin, if_pos (by rw [may_bad hok]; omega), none_bad hok, may_bad hok])
    (fun hok he => by rw [sp_TableJoin, if_pos (by rw [may_full hok he]; omega), none_ok hok, may_full hok he]) rfl fun hok he => ?_
  rw [sp_TableJoin, if_neg (by rw [may_ok hok he]; simp), im_TableJoin_1, has_eq (by have := hok.2.1; omega) hok.2.1.2]
  simp only [l2Copy_eq, im_isNode, im_in_eq]
  by_cases h1 : sp_l6In node 0 4 = false
  · rw [if_pos h1, if_pos h1]; exact .inl ⟨6, by omega, rfl, rfl⟩
  rw [if_neg h1, if_neg h1]
  by_cases h2 : sp_l2Has t.Members node = true
  · rw [if_pos h2, if_pos h2]; exact .inl ⟨7, by omega, rfl, rfl⟩
  rw [if_neg h2, if_neg h2]
  obtain ⟨m, hm, hm0, hm1⟩ := mem_bd hok
  have hb := l6In_bd (by simpa using h1)
  obtain ⟨n, rfl⟩ : ∃ n : Nat, node = (n : Int) := ⟨node.toNat, by omega⟩
  have hn : n ≤ 4 := by omega
  rw [hm, has_nat m n hm1 hn] at h2
  have hf := or_fin ⟨m, by omega⟩ ⟨n, by omega⟩ (by simpa using h2)
  have hj := fun k => join_fin ⟨m, by omega⟩ ⟨n, by omega⟩ k (by simpa using h2)
  simp only at hf hj
  have hle := (hj 0).1
  have hpn : ((2 ^ n : Nat) : Int) = (2 : Int) ^ n := by push_cast; rfl
  have hpp := pow2_pos n
  refine .inr ⟨⟨t.Epoch, ((m + 2 ^ n : Nat) : Int), t.Ranges⟩, ⟨?_, ?_, hok.2.2.1, ?_⟩, rfl, ?_, ?_⟩
  · have := hok.1; simp only []; omega
  · simp only []; omega
  · refine okP_mono (fun r _ hr => ?_) hok.2.2.2
    have hk := l2Has_bd hr
    obtain ⟨k, hkk⟩ : ∃ k : Nat, r.Node = (k : Int) := ⟨r.Node.toNat, by omega⟩
    rw [hkk, hm, has_nat m k hm1 (by omega)] at hr
    rw [hkk, has_nat _ k hle (by omega)]
    exact (hj ⟨k, by omega⟩).2 hr
  · have hep := hok.1
    simp only [sp_l2Next, hm]
    rw [wr_id (n := t.Epoch + 1) (by omega) (by omega), l2Bit_val (by omega) (by omega), Int.toNat_natCast, wr_id (by omega) (by omega), ← hpn]
    push_cast; rfl
  · rw [bit_im hn, hm, hf]
theorem leave_L (t : GTable) (node : Int) : ∀ (m i : Nat), t.Ranges.length - i = m → sp_TableLeave_L1 t node i = if (∃ r, r ∈ t.Ranges.drop i ∧ r.Node = node) then .ret (t, 8) else .go () := by
  intro m
  induction m with
  | zero => intro i h; rw [sp_TableLeave_L1, dif_neg (by omega), List.drop_eq_nil_of_le (by omega)]; simp
  | succ m ih =>
    intro i h
    rw [sp_TableLeave_L1, dif_pos (by omega), ih (i + 1) (by omega), drop_cons t.Ranges i (by omega), l2Copy_eq]
    by_cases hc : (t.Ranges.getD i default).Node = node
    · rw [if_pos hc, if_pos ⟨_, by simp, hc⟩]
    · rw [if_neg hc]
      congr 1
      simp only [List.mem_cons, exists_eq_or_imp, hc, false_or]
theorem cont_L (s : List GTableRange) (node : Int) : ∀ (m i : Nat), s.length - i = m → (match slices_IndexFunc_TableRange_f_im_TableLeave_1_1_L1 s node i with | .ret r => 0 ≤ r ∧ ∃ r, r ∈ s.drop i ∧ r.Node = node | .go _ => ¬∃ r, r ∈ s.drop i ∧ r.Node = node) := by
  intro m
  induction m with
  | zero => intro i h; rw [slices_IndexFunc_TableRange_f_im_TableLeave_1_1_L1, dif_neg (by omega), List.drop_eq_nil_of_le (by omega)]; simp
  | succ m ih =>
    intro i h
    rw [slices_IndexFunc_TableRange_f_im_TableLeave_1_1_L1, dif_pos (by omega), drop_cons _ _ (by omega)]
    simp only [Int.toNat_natCast, im_TableLeave_1_1, beq_iff_eq]
    by_cases hc : (s.getD i default).Node = node
    · rw [if_pos hc]; exact ⟨by omega, _, by simp, hc⟩
    · rw [if_neg hc]
      have h1 := ih (i + 1) (by omega)
      simp only [List.mem_cons, exists_eq_or_imp, hc, false_or]
      exact h1
theorem cont_iff (s : List GTableRange) (node : Int) : slices_ContainsFunc_TableRange_f_im_TableLeave_1_1 s node = true ↔ ∃ r, r ∈ s ∧ r.Node = node := by
  have h := cont_L s node _ 0 rfl
  rw [List.drop_zero] at h
  simp only [slices_ContainsFunc_TableRange_f_im_TableLeave_1_1, decide_eq_true_eq, ge_iff_le]
  simp only [slices_IndexFunc_TableRange_f_im_TableLeave_1_1, slices_IndexFunc_TableRange_f_im_TableLeave_1_1_K1]
  rcases hL : slices_IndexFunc_TableRange_f_im_TableLeave_1_1_L1 s node 0 with r | q
  · rw [hL] at h; simp only at h ⊢; simp [h.1, h.2]
  · rw [hL] at h; simp only at h ⊢; simp [h]
theorem leave_both (t : GTable) (node : Int) : im_TableLeave t node = sp_TableLeave t node ∧ Good t (sp_TableLeave t node) := by
  refine both_of (f := fun x => im_TableLeave_1 x node) (fun hok => by rw [sp_TableLeave, if_pos (by rw [may_bad hok]; omega), none_bad hok, may_bad hok])
    (fun hok he => by rw [sp_TableLeave, if_pos (by rw [may_full hok he]; omega), none_ok hok, may_full hok he]) rfl fun hok he => ?_
  rw [sp_TableLeave, if_neg (by rw [may_ok hok he]; simp), im_TableLeave_1, has_eq (by have := hok.2.1; omega) hok.2.1.2]
  simp only [l2Copy_eq]
  by_cases h1 : sp_l2Has t.Members node = false
  · rw [if_pos h1, if_pos h1]; exact .inl ⟨6, by omega, rfl, rfl⟩
  rw [if_neg h1, if_neg h1]
  have hL := leave_L t node _ 0 rfl
  rw [List.drop_zero] at hL
  rw [sp_TableLeave_K1, hL]
  by_cases h2 : ∃ r, r ∈ t.Ranges ∧ r.Node = node
  · rw [if_pos h2, if_pos ((cont_iff _ _).2 h2)]; exact .inl ⟨8, by omega, rfl, rfl⟩
  rw [if_neg h2, if_neg (fun e => h2 ((cont_iff _ _).1 e))]
  simp only [l2Copy_eq]
  obtain ⟨m, hm, hm0, hm1⟩ := mem_bd hok
  have hb := l2Has_bd (by simpa using h1)
  obtain ⟨n, rfl⟩ : ∃ n : Nat, node = (n : Int) := ⟨node.toNat, by omega⟩
  have hn : n ≤ 4 := by omega
  rw [hm, has_nat m n hm1 hn] at h1
  have hf := and_fin ⟨m, by omega⟩ ⟨n, by omega⟩ (by simpa using h1)
  have hj := fun k => leave_fin ⟨m, by omega⟩ ⟨n, by omega⟩ k (by simpa using h1)
  simp only at hf hj
  have hle := (hj 0).1
  have hpn : ((2 ^ n : Nat) : Int) = (2 : Int) ^ n := by push_cast; rfl
  have hpp := pow2_pos n
  have hne : ∀ r, r ∈ t.Ranges → r.Node ≠ (n : Int) := fun r hr e => h2 ⟨r, hr, e⟩
  have hmv : ∀ r, r ∈ t.Ranges → sp_l2Has t.Members r.Node = true → sp_l2Has ((m - 2 ^ n : Nat) : Int) r.Node = true := fun r hrm hr => by
    have hk := l2Has_bd hr
    obtain ⟨k, hkk⟩ : ∃ k : Nat, r.Node = (k : Int) := ⟨r.Node.toNat, by omega⟩
    have hkn : k ≠ n := fun e => hne r hrm (by rw [hkk, e])
    rw [hkk, hm, has_nat m k hm1 (by omega)] at hr
    rw [hkk, has_nat _ k (by omega) (by omega)]
    exact (hj ⟨k, by omega⟩).2 (fun e => hkn (by simpa using e)) hr
  have hokn := okP_mono hmv hok.2.2.2
  have hmpos : 1 ≤ m - 2 ^ n := by
    have h8 := hok.2.2.1
    rcases hr : t.Ranges with _ | ⟨r, rs⟩
    · rw [hr] at h8; simp at h8
    · rw [hr] at hokn
      simp only [okP] at hokn
      have h9 := hokn.2.2.2.1
      rcases Nat.eq_zero_or_pos (m - 2 ^ n) with h0 | h0
      · rw [h0] at h9
        have hk := l2Has_bd h9
        obtain ⟨k, hkk⟩ : ∃ k : Nat, r.Node = (k : Int) := ⟨r.Node.toNat, by omega⟩
        rw [hkk, has_nat 0 k (by omega) (by omega)] at h9
        simp [hasN] at h9
      · exact h0
  refine .inr ⟨⟨t.Epoch, ((m - 2 ^ n : Nat) : Int), t.Ranges⟩, ⟨?_, ?_, hok.2.2.1, hokn⟩, rfl, ?_, ?_⟩
  · have := hok.1; simp only []; omega
  · simp only []; omega
  · have hep := hok.1
    simp only [sp_l2Next, hm]
    rw [wr_id (n := t.Epoch + 1) (by omega) (by omega), l2Bit_val (by omega) (by omega), Int.toNat_natCast, wr_id (by omega) (by omega), ← hpn]
    simp only [Prod.mk.injEq, GTable.mk.injEq, true_and, and_true]
    omega
  · rw [bit_im hn, hm, hf]
end Go.Proofs.YtlojldccjmkikaaGreat
end
section
/-! Tables that are ok stay ok. -/
namespace Go.Proofs.YtlojldccjmkikaaGreat
open Go.Ae
theorem start_ok : OkT sp_TableStart := by
  unfold OkT sp_TableStart
  refine ⟨by decide, by decide, by decide, ?_⟩
  simp only [okP]
  refine ⟨trivial, by decide, by decide, ?_, trivial, by decide, by decide, ?_, trivial⟩
  · have := has_nat 3 0 (by decide) (by decide); exact this.trans (by decide)
  · have := has_nat 3 1 (by decide) (by decide); exact this.trans (by decide)
theorem Good.ok {t : GTable} {x : GTable × Int} (h : Good t x) (hok : OkT t) : OkT x.1 := by
  by_cases h1 : x.2 = 0
  · exact (h.2.2 h1).1
  · rw [h.2.1 hok h1]; exact hok
theorem split_ok {t : GTable} (a : Int) (h : OkT t) : OkT (sp_TableSplit t a).1 := (split_both t a).2.ok h
theorem merge_ok {t : GTable} (a : Int) (h : OkT t) : OkT (sp_TableMerge t a).1 := (merge_both t a).2.ok h
theorem move_ok {t : GTable} (a b : Int) (h : OkT t) : OkT (sp_TableMove t a b).1 := (move_both t a b).2.ok h
theorem join_ok {t : GTable} (a : Int) (h : OkT t) : OkT (sp_TableJoin t a).1 := (join_both t a).2.ok h
theorem leave_ok {t : GTable} (a : Int) (h : OkT t) : OkT (sp_TableLeave t a).1 := (leave_both t a).2.ok h
theorem split_okb {t : GTable} (a : Int) (h : sp_TableOk t = true) : sp_TableOk (sp_TableSplit t a).1 = true := (spOk_iff _).2 (split_ok a ((spOk_iff _).1 h))
theorem merge_okb {t : GTable} (a : Int) (h : sp_TableOk t = true) : sp_TableOk (sp_TableMerge t a).1 = true := (spOk_iff _).2 (merge_ok a ((spOk_iff _).1 h))
theorem move_okb {t : GTable} (a b : Int) (h : sp_TableOk t = true) : sp_TableOk (sp_TableMove t a b).1 = true := (spOk_iff _).2 (move_ok a b ((spOk_iff _).1 h))
theorem join_okb {t : GTable} (a : Int) (h : sp_TableOk t = true) : sp_TableOk (sp_TableJoin t a).1 = true := (spOk_iff _).2 (join_ok a ((spOk_iff _).1 h))
theorem leave_okb {t : GTable} (a : Int) (h : sp_TableOk t = true) : sp_TableOk (sp_TableLeave t a).1 = true := (spOk_iff _).2 (leave_ok a ((spOk_iff _).1 h))
theorem start_okb : sp_TableOk sp_TableStart = true := (spOk_iff _).2 start_ok
theorem len_okb {t : GTable} (h : sp_TableOk t = true) : 1 ≤ t.Ranges.length ∧ t.Ranges.length ≤ 8 := ((spOk_iff _).1 h).2.2.1
end Go.Proofs.YtlojldccjmkikaaGreat
end
