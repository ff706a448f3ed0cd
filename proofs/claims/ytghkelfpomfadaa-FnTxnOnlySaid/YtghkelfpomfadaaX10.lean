/- Plain facts: a transaction runs by the values of its own keys alone. -/
import Derived.Test.YtghkelfpomfadaaX9
import Derived.Test.YtghkelfpomfadaaT3
import Derived.Test.YtghkelfpomfadaaU1
import Derived.Test.YtghkelfpomfadaaT4
set_option linter.unusedVariables false
set_option linter.unusedSimpArgs false
section
/-! What the law on all keys of a transaction asks for. -/
namespace Go.Proofs.Ytghkelfpomfadaa
open Go.Ae
theorem TxnAll_len {t : GTxn} (hok : sp_TxnOk t = true) : (sp_TxnAll t).length ≤ 16 := by
  have h1 := tidy_all hok
  have h2 := TxnOk_len hok
  have h3 := keysOf_len t
  have h4 := isort (data := keysOf t) (by omega)
  rw [← h1, tidy]
  exact Nat.le_trans (cmpR_len _ _) (by rw [h4.1]; omega)
theorem asc_getD {l : List Int} (h : Asc l) {k : Nat} (h0 : 0 < k) (hk : k < l.length) : l.getD (k - 1) default < l.getD k default := by
  have := List.pairwise_iff_getElem.1 h (k - 1) k (by omega) hk (by omega)
  simpa [List.getD_eq_getElem?_getD, hk, show k - 1 < l.length by omega] using this
theorem TxnAll_found {t : GTxn} {all : List Int} {i k : Nat} (hok : sp_TxnOk t = true) (hall : all = t.Reads ++ t.Writes.map (·.Key))
    (hi : i < all.length) (hk : (sp_TxnAll t).length ≤ k) : ((sp_TxnAll t).take k).any (fun y => y == all.getD i default) = true := by
  rw [List.take_of_length_le hk, List.any_eq_true]
  refine ⟨all.getD i default, ?_, by simp⟩
  rw [(TxnAll_ok hok).2]
  have hm : all.getD i default ∈ all := mem_getD hi
  rw [hall, List.mem_append] at hm
  simp only [keysOf, List.mem_append]
  rcases hm with hm | hm
  · exact .inl (.inl (hall ▸ hm))
  · refine .inr ?_
    obtain ⟨w, hw, e⟩ := List.mem_map.1 hm
    rw [hall, List.mem_flatMap]
    refine ⟨w, hw, ?_⟩
    rw [← e, wKeys]; split <;> simp
theorem TxnAll_asc {t : GTxn} {k : Nat} (hok : sp_TxnOk t = true) (h0 : 1 ≤ k) (hk : k < (sp_TxnAll t).length) :
    ¬ (sp_TxnAll t).getD (wr .i64 ((k : Int) - 1)).toNat default ≥ (sp_TxnAll t).getD k default := by
  have hl := (TxnAll_ok hok).1
  by_cases hb : k ≤ 2147483648
  · rw [pred_nat (by omega) hb]
    have := asc_getD hl (k := k) (by omega) hk; omega
  · exfalso
    have h1 := TxnAll_len hok
    omega
theorem TxnAll_pos {t : GTxn} (hok : sp_TxnOk t = true) : 0 < (sp_TxnAll t).length := by
  have hm : ∃ x, x ∈ keysOf t := by
    have hl := TxnOk_len hok
    rcases hr : t.Reads with _ | ⟨a, r⟩
    · rcases hg : t.Guards with _ | ⟨a, r⟩
      · rcases hw : t.Writes with _ | ⟨a, r⟩
        · rw [hr, hg, hw] at hl; simp at hl
        · exact ⟨a.Key, by simp only [keysOf, hw, List.mem_append, List.flatMap_cons, wKeys]; right; left; split <;> simp⟩
      · exact ⟨a.Key, by simp [keysOf, hg]⟩
    · exact ⟨a, by simp [keysOf, hr]⟩
  obtain ⟨x, hx⟩ := hm
  exact List.length_pos_of_mem (((TxnAll_ok hok).2 x).2 hx)
theorem lcInts_self (l : List Int) : lw_lcInts l l = true := by
  have h : ∀ m i, l.length - i = m → lw_lcInts_L1 l l i = .go () := by
    intro m
    induction m with
    | zero => intro i hi; rw [lw_lcInts_L1, dif_neg (by omega)]
    | succ m ih => intro i hi; rw [lw_lcInts_L1, dif_pos (by omega), if_neg (by simp), ih _ (by omega)]
  simp only [lw_lcInts, lw_lcInts_K1, h _ 0 rfl]; simp
theorem TxnAll_le (t : GTxn) : (sp_TxnAll t).length ≤ 16 := by
  by_cases h : sp_TxnOk t = true
  · exact TxnAll_len h
  · simp only [sp_TxnAll, Bool.not_eq_true _ ▸ h, if_true, List.length_nil]; omega
/-- What the loops of the law ask for. -/
structure KeysOk (keys all : List Int) : Prop where
  asc : Asc keys
  pos : 0 < keys.length
  len : keys.length ≤ 16
  alen : all.length ≤ 8
  sub : ∀ x, x ∈ all → x ∈ keys
theorem keys_ok {t : GTxn} {keys all : List Int} {i : Nat} (hok : sp_TxnOk t = true) (hk : keys = sp_TxnAll t) (hall : all = t.Reads ++ (t.Writes.take i).map (fun x => x.Key)) (hi : t.Writes.length ≤ i) : KeysOk keys all := by
  rw [List.take_of_length_le hi] at hall
  have hl := TxnOk_len hok
  have ha := TxnAll_ok hok
  refine ⟨hk ▸ ha.1, hk ▸ TxnAll_pos hok, hk ▸ TxnAll_len hok, ?_, fun x hx => ?_⟩
  · rw [hall, List.length_append, List.length_map]; omega
  · rw [hk, ha.2]
    rw [hall, List.mem_append] at hx
    simp only [keysOf, List.mem_append]
    rcases hx with hx | hx
    · exact .inl (.inl hx)
    · obtain ⟨w, hw, e⟩ := List.mem_map.1 hx
      refine .inr (List.mem_flatMap.2 ⟨w, hw, ?_⟩)
      rw [← e, wKeys]; split <;> simp
theorem found_all {keys all : List Int} {i k : Nat} (h : KeysOk keys all) (hi : i < all.length) (hk : keys.length ≤ k) : (keys.take k).any (fun y => y == all.getD i default) = true := by
  rw [List.take_of_length_le hk, List.any_eq_true]
  exact ⟨_, h.sub _ (mem_getD hi), by simp⟩
theorem any_snoc {keys : List Int} {k : Nat} {x : Int} (h : k < keys.length) : (keys.take (k + 1)).any (fun y => y == x) = ((keys.take k).any (fun y => y == x) || keys.getD k default == x) := by
  rw [take_snoc h, List.any_append]; simp
theorem asc_wr {keys : List Int} {k : Nat} (h : Asc keys) (h0 : 1 ≤ k) (hk : k < keys.length) (hl : keys.length ≤ 16) : ¬ keys.getD k default ≤ keys.getD (wr .i64 ((k : Int) - 1)).toNat default := by
  rw [pred_nat (by omega) (by omega)]
  have := asc_getD h (k := k) (by omega) hk; omega
theorem allw_snoc {t : GTxn} {all : List Int} {i : Nat} (e : all = t.Reads ++ (t.Writes.take i).map (fun x => x.Key)) (h : i < t.Writes.length) :
    all ++ [(t.Writes.getD i default).Key] = t.Reads ++ (t.Writes.take (i + 1)).map (fun x => x.Key) := by
  rw [e, take_snocW h]; simp
theorem allw_len {t : GTxn} {all : List Int} {i : Nat} (hok : sp_TxnOk t = true) (e : all = t.Reads ++ (t.Writes.take i).map (fun x => x.Key)) : all.length ≤ 8 := by
  have hl := TxnOk_len hok
  rw [e, List.length_append, List.length_map, List.length_take]; omega
end Go.Proofs.Ytghkelfpomfadaa
end
section
/-! A transaction runs alike on both sides, and by the values of its own keys alone. -/
namespace Go.Proofs.Ytghkelfpomfadaa
open Go.Ae
theorem valOf_eq (l : List GTxnPair) (k : Int) : im_valOf l k = sp_l1Get l k := by
  have h : ∀ m i, l.length - i = m → im_valOf_L1 l k i = sp_l1Get_L1 l k i := by
    intro m
    induction m with
    | zero => intro i hi; rw [im_valOf_L1, sp_l1Get_L1, dif_neg (by omega), dif_neg (by omega)]
    | succ m ih => intro i hi; rw [im_valOf_L1, sp_l1Get_L1, dif_pos (by omega), dif_pos (by omega), ih _ (by omega)]
  simp only [im_valOf, im_valOf_K1, sp_l1Get, sp_l1Get_K1, h _ 0 rfl]
  cases sp_l1Get_L1 l k 0 <;> rfl
theorem in_eq (n a b : Int) : im_in n a b = sp_l6In n a b := by simp only [im_in, sp_l6In]
theorem isVal_eq (n : Int) : im_isVal n = sp_l1Val n := by simp only [im_isVal, sp_l1Val, in_eq]
theorem run_eq (t : GTxn) (vals : List GTxnPair) : im_TxnRun t vals = sp_TxnRun t vals := by
  have h1 : ∀ m i, t.Guards.length - i = m → im_TxnRun_L1 t vals i = sp_TxnRun_L1 vals t [] i := by
    intro m
    induction m with
    | zero => intro i hi; rw [im_TxnRun_L1, sp_TxnRun_L1, dif_neg (by omega), dif_neg (by omega)]
    | succ m ih => intro i hi; rw [im_TxnRun_L1, sp_TxnRun_L1, dif_pos (by omega), dif_pos (by omega), ih _ (by omega)]; simp only [in_eq, valOf_eq]
  have h2 : ∀ m i out, t.Writes.length - i = m → im_TxnRun_L2 t vals out i = sp_TxnRun_L2 t vals [] out i := by
    intro m
    induction m with
    | zero => intro i out hi; rw [im_TxnRun_L2, sp_TxnRun_L2, dif_neg (by omega), dif_neg (by omega)]
    | succ m ih => intro i out hi; rw [im_TxnRun_L2, sp_TxnRun_L2, dif_pos (by omega), dif_pos (by omega)]; simp only [isVal_eq, valOf_eq, ih (i + 1) _ (by omega)]
  have h3 : ∀ m i r, t.Reads.length - i = m → im_TxnRun_L3 t vals r i = sp_TxnRun_L3 vals t r i := by
    intro m
    induction m with
    | zero => intro i r hi; rw [im_TxnRun_L3, sp_TxnRun_L3, dif_neg (by omega), dif_neg (by omega)]
    | succ m ih => intro i r hi; rw [im_TxnRun_L3, sp_TxnRun_L3, dif_pos (by omega), dif_pos (by omega)]; simp only [valOf_eq, ih (i + 1) _ (by omega)]
  simp only [im_TxnRun, sp_TxnRun, txnOk_eq, pairsOk_eq]
  split
  · rfl
  · simp only [im_TxnRun_K1, sp_TxnRun_K1, h1 _ 0 rfl]
    cases sp_TxnRun_L1 vals t [] 0 with
    | ret r => rfl
    | go q =>
      simp only [im_TxnRun_K2, sp_TxnRun_K2, h2 _ 0 _ rfl]
      cases sp_TxnRun_L2 t vals [] [] 0 with
      | ret r => rfl
      | go q => simp only [im_TxnRun_K3, sp_TxnRun_K3, h3 _ 0 _ rfl]
theorem getD_mem {α : Type} [Inhabited α] {l : List α} {n : Nat} (h : n < l.length) : l.getD n default ∈ l := by
  simp [List.getD_eq_getElem?_getD, h]
/-- By the values of its own keys alone. -/
theorem run_own {t : GTxn} {a b : List GTxnPair} (ha : sp_l1PairsOk a = sp_l1PairsOk b) (h : ∀ k, k ∈ keysOf t → sp_l1Get a k = sp_l1Get b k) : sp_TxnRun t a = sp_TxnRun t b := by
  have hg : ∀ i, i < t.Guards.length → sp_l1Get a (t.Guards.getD i default).Key = sp_l1Get b (t.Guards.getD i default).Key := fun i hi =>
    h _ (by simp only [keysOf, List.mem_append]; exact .inl (.inr (List.mem_map.2 ⟨_, getD_mem hi, rfl⟩)))
  have hw : ∀ i, i < t.Writes.length → (t.Writes.getD i default).From ≥ 0 → sp_l1Get a (t.Writes.getD i default).From = sp_l1Get b (t.Writes.getD i default).From := fun i hi h0 =>
    h _ (by simp only [keysOf, List.mem_append]; exact .inr (List.mem_flatMap.2 ⟨_, getD_mem hi, by rw [wKeys, if_pos h0]; exact List.mem_cons_of_mem _ (List.mem_cons_self ..)⟩))
  have hr : ∀ i, i < t.Reads.length → sp_l1Get a (t.Reads.getD i default) = sp_l1Get b (t.Reads.getD i default) := fun i hi =>
    h _ (by simp only [keysOf, List.mem_append]; exact .inl (.inl (getD_mem hi)))
  have h1 : ∀ m i, t.Guards.length - i = m → sp_TxnRun_L1 a t [] i = sp_TxnRun_L1 b t [] i := by
    intro m
    induction m with
    | zero => intro i hi; (conv => lhs; rw [sp_TxnRun_L1, dif_neg (by omega)]); (conv => rhs; rw [sp_TxnRun_L1, dif_neg (by omega)])
    | succ m ih => intro i hi; rw [sp_TxnRun_L1, dif_pos (by omega), ih _ (by omega), hg i (by omega)]; (conv => rhs; rw [sp_TxnRun_L1, dif_pos (by omega)])
  have h2 : ∀ m i out, t.Writes.length - i = m → sp_TxnRun_L2 t a [] out i = sp_TxnRun_L2 t b [] out i := by
    intro m
    induction m with
    | zero => intro i out hi; (conv => lhs; rw [sp_TxnRun_L2, dif_neg (by omega)]); (conv => rhs; rw [sp_TxnRun_L2, dif_neg (by omega)])
    | succ m ih =>
      intro i out hi; rw [sp_TxnRun_L2, dif_pos (by omega)]; (conv => rhs; rw [sp_TxnRun_L2, dif_pos (by omega)])
      by_cases h0 : (t.Writes.getD i default).From ≥ 0
      · simp only [if_pos h0, hw i (by omega) h0, ih (i + 1) _ (by omega)]
      · simp only [if_neg h0, ih (i + 1) _ (by omega)]
  have h3 : ∀ m i r, t.Reads.length - i = m → sp_TxnRun_L3 a t r i = sp_TxnRun_L3 b t r i := by
    intro m
    induction m with
    | zero => intro i r hi; (conv => lhs; rw [sp_TxnRun_L3, dif_neg (by omega)]); (conv => rhs; rw [sp_TxnRun_L3, dif_neg (by omega)])
    | succ m ih =>
      intro i r hi; rw [sp_TxnRun_L3, dif_pos (by omega)]; (conv => rhs; rw [sp_TxnRun_L3, dif_pos (by omega)])
      simp only [hr i (by omega), ih (i + 1) _ (by omega)]
  simp only [sp_TxnRun, ha]
  split
  · rfl
  · simp only [sp_TxnRun_K1, h1 _ 0 rfl]
    cases sp_TxnRun_L1 b t [] 0 with
    | ret r => rfl
    | go q =>
      simp only [sp_TxnRun_K2, h2 _ 0 _ rfl]
      cases sp_TxnRun_L2 t b [] [] 0 with
      | ret r => rfl
      | go q => simp only [sp_TxnRun_K3, h3 _ 0 _ rfl]
/-- The pairs of some keys. -/
def ownOf (vals : List GTxnPair) (keys : List Int) : List GTxnPair := vals.flatMap fun v => (keys.filter (fun k => decide (v.Key = k))).map fun _ => v
theorem filter_asc {keys : List Int} (h : Asc keys) (x : Int) : keys.filter (fun k => decide (x = k)) = if x ∈ keys then [x] else [] := by
  induction keys with
  | nil => simp
  | cons a r ih =>
    have h' := List.pairwise_cons.1 h
    have ih := ih h'.2
    rw [List.filter_cons]
    by_cases hx : x = a
    · subst hx
      rw [if_pos (by simp), ih, if_neg (fun hm => by have := h'.1 x hm; omega), if_pos (by simp)]
    · rw [if_neg (by simp [hx]), ih]
      by_cases hm : x ∈ r
      · rw [if_pos hm, if_pos (by simp [hm])]
      · rw [if_neg hm, if_neg (by simp [hm, hx])]
theorem ownOf_filter {vals : List GTxnPair} {keys : List Int} (h : Asc keys) : ownOf vals keys = vals.filter (fun v => decide (v.Key ∈ keys)) := by
  induction vals with
  | nil => rfl
  | cons v r ih =>
    have e : ownOf (v :: r) keys = ((keys.filter (fun k => decide (v.Key = k))).map fun _ => v) ++ ownOf r keys := by simp [ownOf]
    rw [e, ih, filter_asc h, List.filter_cons]
    by_cases hm : v.Key ∈ keys
    · rw [if_pos hm, if_pos (by simp [hm])]; rfl
    · rw [if_neg hm, if_neg (by simp [hm])]; rfl
end Go.Proofs.Ytghkelfpomfadaa
end
section
/-! What the law on the keys of a transaction asks for. -/
namespace Go.Proofs.Ytghkelfpomfadaa
open Go.Ae
theorem l1Get_find (l : List GTxnPair) (k : Int) : sp_l1Get l k = match l.find? (fun x => decide (x.Key = k)) with | some x => x.Val | none => 0 := by
  have h : ∀ m i, l.length - i = m → (match sp_l1Get_L1 l k i with | .ret r => r | .go _ => 0) = match (l.drop i).find? (fun x => decide (x.Key = k)) with | some x => x.Val | none => 0 := by
    intro m
    induction m with
    | zero => intro i hi; rw [sp_l1Get_L1, dif_neg (by omega), List.drop_eq_nil_of_le (by omega)]; rfl
    | succ m ih =>
      intro i hi
      have hd : l.drop i = l.getD i default :: l.drop (i + 1) := by
        rw [List.drop_eq_getElem_cons (by omega)]; simp [List.getD_eq_getElem?_getD, show i < l.length by omega]
      rw [sp_l1Get_L1, dif_pos (by omega), hd, List.find?_cons]
      by_cases hk : (l.getD i default).Key = k
      · rw [if_pos hk]; simp only [hk, decide_true]
      · rw [if_neg hk, ih _ (by omega)]; simp only [hk, decide_false]
  have := h _ 0 rfl
  simp only [List.drop_zero] at this
  simp only [sp_l1Get, sp_l1Get_K1]
  exact this
theorem find_filter {keys : List Int} {k : Int} (hk : k ∈ keys) : ∀ (l : List GTxnPair), (l.filter (fun v => decide (v.Key ∈ keys))).find? (fun x => decide (x.Key = k)) = l.find? (fun x => decide (x.Key = k))
  | [] => rfl
  | v :: r => by
    have ih := find_filter hk r
    rw [List.filter_cons]
    by_cases hm : v.Key ∈ keys
    · rw [if_pos (by simp [hm]), List.find?_cons, List.find?_cons, ih]
    · rw [if_neg (by simp [hm]), ih, List.find?_cons]
      have : ¬ v.Key = k := fun e => hm (e ▸ hk)
      simp only [this, decide_false]
theorem rise_pw : ∀ {l : List GTxnPair}, (∀ k, 0 < k → k < l.length → (l.getD (k - 1) default).Key < (l.getD k default).Key) → l.Pairwise (fun a b => a.Key < b.Key)
  | [], _ => List.Pairwise.nil
  | a :: r, h => by
    have ih := rise_pw (l := r) (fun k h0 hk => by
      have := h (k + 1) (by omega) (by simp; omega)
      have e : k + 1 - 1 = (k - 1) + 1 := by omega
      rw [e] at this
      simpa [List.getD_cons_succ] using this)
    refine List.pairwise_cons.2 ⟨?_, ih⟩
    intro b hb
    obtain ⟨i, hi, e⟩ := List.mem_iff_getElem.1 hb
    have key : ∀ i, i < r.length → a.Key < (r.getD i default).Key := by
      intro i
      induction i with
      | zero => intro hi; have := h 1 (by omega) (by simp; omega); simpa [List.getD_cons_succ] using this
      | succ i ih2 =>
        intro hi
        have h1 := ih2 (by omega)
        have h2 := h (i + 2) (by omega) (by simp; omega)
        have e : i + 2 - 1 = i + 1 := by omega
        rw [e] at h2
        simp only [List.getD_cons_succ] at h2
        omega
    have := key i hi
    simpa [List.getD_eq_getElem?_getD, hi, e] using this
theorem pw_rise {l : List GTxnPair} (h : l.Pairwise (fun a b => a.Key < b.Key)) (k : Nat) (h0 : 0 < k) (hk : k < l.length) : (l.getD (k - 1) default).Key < (l.getD k default).Key := by
  have := List.pairwise_iff_getElem.1 h (k - 1) k (by omega) hk (by omega)
  simpa [List.getD_eq_getElem?_getD, hk, show k - 1 < l.length by omega] using this
theorem pairsOk_filter {l : List GTxnPair} (p : GTxnPair → Bool) (h : sp_l1PairsOk l = true) : sp_l1PairsOk (l.filter p) = true := by
  rw [spPairsOk_iff] at *
  obtain ⟨h1, h2, h3⟩ := h
  refine ⟨Nat.le_trans (List.length_filter_le _ _) h1, fun k hk => ?_, pw_rise (List.Pairwise.filter _ (rise_pw h3))⟩
  have hm := (List.mem_filter.1 (getD_mem hk)).1
  obtain ⟨i, hi, e⟩ := List.mem_iff_getElem.1 hm
  have := h2 i hi
  rw [← e]
  simpa [List.getD_eq_getElem?_getD, hi] using this
theorem run_code {t : GTxn} {vals : List GTxnPair} (h : ¬ (sp_TxnRun t vals).2.1 = 10) : sp_TxnOk t = true ∧ sp_l1PairsOk vals = true := by
  simp only [sp_TxnRun] at h
  split at h
  · exact absurd rfl h
  · rename_i hc
    simp only [not_or, Bool.not_eq_false] at hc
    exact hc
theorem only_run {t : GTxn} {vals : List GTxnPair} (h : ¬ (sp_TxnRun t vals).2.1 = 10) : sp_TxnRun t (ownOf vals (sp_TxnAll t)) = sp_TxnRun t vals := by
  obtain ⟨ht, hv⟩ := run_code h
  have ha := TxnAll_ok ht
  rw [ownOf_filter ha.1]
  refine run_own (by rw [hv]; exact pairsOk_filter _ hv) (fun k hk => ?_)
  rw [l1Get_find, l1Get_find, find_filter ((ha.2 k).2 hk)]
theorem lcPairs_self (l : List GTxnPair) : lw_lcPairs l l = true := by
  have h : ∀ m i, l.length - i = m → lw_lcPairs_L1 l l i = .go () := by
    intro m
    induction m with
    | zero => intro i hi; rw [lw_lcPairs_L1, dif_neg (by omega)]
    | succ m ih => intro i hi; rw [lw_lcPairs_L1, dif_pos (by omega), if_neg (by simp), ih _ (by omega)]
  simp only [lw_lcPairs, lw_lcPairs_K1, h _ 0 rfl]; simp
theorem ownOf_snoc {vals : List GTxnPair} {keys : List Int} {i : Nat} (hi : i < vals.length) :
    ownOf (vals.take (i + 1)) keys = ownOf (vals.take i) keys ++ (keys.filter (fun k => decide ((vals.getD i default).Key = k))).map fun _ => vals.getD i default := by
  have e : vals.take (i + 1) = vals.take i ++ [vals.getD i default] := by
    rw [List.take_add_one, List.getD_eq_getElem?_getD, List.getElem?_eq_getElem hi]; rfl
  simp [ownOf, e, List.flatMap_append]
theorem filt_snoc {keys : List Int} {x : Int} {v : GTxnPair} {k : Nat} (hk : k < keys.length) :
    ((keys.take (k + 1)).filter (fun k => decide (x = k))).map (fun _ => v) = ((keys.take k).filter (fun k => decide (x = k))).map (fun _ => v) ++ (if x = keys.getD k default then [v] else []) := by
  have e : keys.take (k + 1) = keys.take k ++ [keys.getD k default] := by
    rw [List.take_add_one, List.getD_eq_getElem?_getD, List.getElem?_eq_getElem hk]; rfl
  rw [e, List.filter_append, List.map_append]
  congr 1
  by_cases h : x = keys.getD k default
  · rw [if_pos h, List.filter_cons, if_pos (by rw [decide_eq_true_eq]; exact h)]; rfl
  · rw [if_neg h, List.filter_cons, if_neg (by rw [decide_eq_true_eq]; exact h)]; rfl
theorem run_L1 (t : GTxn) (vals : List GTxnPair) : ∀ m i, t.Guards.length - i = m → ∀ r, sp_TxnRun_L1 vals t [] i = .ret r → r.1 = [] ∧ r.2.2 = [] := by
  intro m
  induction m with
  | zero => intro i hi r h; rw [sp_TxnRun_L1, dif_neg (by omega)] at h; cases h
  | succ m ih =>
    intro i hi r h
    rw [sp_TxnRun_L1, dif_pos (by omega)] at h
    split at h
    · cases h; exact ⟨rfl, rfl⟩
    · exact ih _ (by omega) r h
theorem run_L2 (t : GTxn) (vals : List GTxnPair) : ∀ m i out, t.Writes.length - i = m →
    (∀ r, sp_TxnRun_L2 t vals [] out i = .ret r → r.1 = [] ∧ r.2.2 = []) ∧ ∀ q, sp_TxnRun_L2 t vals [] out i = .go q → q.length = out.length + m := by
  intro m
  induction m with
  | zero =>
    intro i out hi
    rw [sp_TxnRun_L2, dif_neg (by omega)]
    exact ⟨fun r h => (by cases h), fun q h => (by cases h; rfl)⟩
  | succ m ih =>
    intro i out hi
    rw [sp_TxnRun_L2, dif_pos (by omega)]
    dsimp only
    split
    · split
      · exact ⟨fun r h => (by cases h; exact ⟨rfl, rfl⟩), fun q h => (by cases h)⟩
      · refine ⟨fun r h => (ih _ _ (by omega)).1 r h, fun q h => ?_⟩
        rw [(ih _ _ (by omega)).2 q h]; simp only [List.length_append, List.length_cons, List.length_nil]; omega
    · split
      · exact ⟨fun r h => (by cases h; exact ⟨rfl, rfl⟩), fun q h => (by cases h)⟩
      · refine ⟨fun r h => (ih _ _ (by omega)).1 r h, fun q h => ?_⟩
        rw [(ih _ _ (by omega)).2 q h]; simp only [List.length_append, List.length_cons, List.length_nil]; omega
theorem run_L3 (t : GTxn) (vals : List GTxnPair) : ∀ m i r, t.Reads.length - i = m → (sp_TxnRun_L3 vals t r i).length = r.length + m := by
  intro m
  induction m with
  | zero => intro i r hi; rw [sp_TxnRun_L3, dif_neg (by omega)]; rfl
  | succ m ih => intro i r hi; rw [sp_TxnRun_L3, dif_pos (by omega), ih _ _ (by omega)]; simp only [List.length_append, List.length_cons, List.length_nil]; omega
theorem run_len (t : GTxn) (vals : List GTxnPair) : (sp_TxnRun t vals).1.length ≤ t.Writes.length ∧ (sp_TxnRun t vals).2.2.length ≤ t.Reads.length := by
  simp only [sp_TxnRun]
  split
  · exact ⟨Nat.zero_le _, Nat.zero_le _⟩
  · simp only [sp_TxnRun_K1]
    have h1 := run_L1 t vals _ 0 rfl
    cases e1 : sp_TxnRun_L1 vals t [] 0 with
    | ret r => have := h1 r e1; simp only [this.1, this.2, List.length_nil]; exact ⟨Nat.zero_le _, Nat.zero_le _⟩
    | go q =>
      simp only [sp_TxnRun_K2]
      have h2 := run_L2 t vals _ 0 [] rfl
      cases e2 : sp_TxnRun_L2 t vals [] [] 0 with
      | ret r => have := h2.1 r e2; simp only [this.1, this.2, List.length_nil]; exact ⟨Nat.zero_le _, Nat.zero_le _⟩
      | go q =>
        simp only [sp_TxnRun_K3, run_L3 t vals _ 0 [] rfl, h2.2 q e2, List.length_nil]
        exact ⟨by omega, by omega⟩
/-- Bounds on what was drawn. -/
structure TxnLens (t : GTxn) : Prop where
  g : t.Guards.length ≤ 2
  w : t.Writes.length ≤ 4
  r : t.Reads.length ≤ 7
  s : t.Guards.length + 2 * t.Writes.length + min t.Reads.length 4 ≤ 11
/-- What the outer loop of the law keeps. -/
structure OnlyI (t : GTxn) (vals want : List GTxnPair) (told : Int) (say keys : List Int) (own : List GTxnPair) (i : Nat) : Prop where
  fw : want = (sp_TxnRun t vals).1
  ft : told = (sp_TxnRun t vals).2.1
  fs : say = (sp_TxnRun t vals).2.2
  fk : keys = sp_TxnAll t
  fo : own = ownOf (vals.take i) keys
  lens : TxnLens t
/-- What the inner loop of the law keeps. -/
structure OnlyJ (t : GTxn) (vals want : List GTxnPair) (told : Int) (say keys : List Int) (own : List GTxnPair) (i k : Nat) : Prop where
  fw : want = (sp_TxnRun t vals).1
  ft : told = (sp_TxnRun t vals).2.1
  fs : say = (sp_TxnRun t vals).2.2
  fk : keys = sp_TxnAll t
  fo : own = ownOf (vals.take i) keys ++ ((keys.take k).filter (fun k => decide ((vals.getD i default).Key = k))).map (fun _ => vals.getD i default)
  lens : TxnLens t
variable {t : GTxn} {vals want : List GTxnPair} {told : Int} {say keys : List Int} {own : List GTxnPair} {i k : Nat}
theorem OnlyI.toJ (h : OnlyI t vals want told say keys own i) : OnlyJ t vals want told say keys own i 0 :=
  ⟨h.fw, h.ft, h.fs, h.fk, by rw [h.fo]; simp, h.lens⟩
theorem OnlyJ.yes (h : OnlyJ t vals want told say keys own i k) (hk : k < keys.length) (e : (vals.getD i default).Key = keys.getD k default) : OnlyJ t vals want told say keys (own ++ [vals.getD i default]) i (k + 1) :=
  ⟨h.fw, h.ft, h.fs, h.fk, by rw [filt_snoc hk, if_pos e, ← List.append_assoc, ← h.fo], h.lens⟩
theorem OnlyJ.no (h : OnlyJ t vals want told say keys own i k) (hk : k < keys.length) (e : ¬(vals.getD i default).Key = keys.getD k default) : OnlyJ t vals want told say keys own i (k + 1) :=
  ⟨h.fw, h.ft, h.fs, h.fk, by rw [filt_snoc hk, if_neg e, List.append_nil, ← h.fo], h.lens⟩
theorem OnlyJ.toI (h : OnlyJ t vals want told say keys own i k) (hk : keys.length ≤ k) (hi : i < vals.length) : OnlyI t vals want told say keys own (i + 1) :=
  ⟨h.fw, h.ft, h.fs, h.fk, by rw [ownOf_snoc hi, h.fo, List.take_of_length_le hk], h.lens⟩
theorem OnlyI.fin (h : OnlyI t vals want told say keys own i) (hi : vals.length ≤ i) (h10 : ¬told = 10) : im_TxnRun t own = sp_TxnRun t vals := by
  have ho := h.fo
  rw [List.take_of_length_le hi, h.fk] at ho
  rw [run_eq, ho, only_run (by rw [← h.ft]; exact h10)]
theorem OnlyI.n (h : OnlyI t vals want told say keys own i) (hi : vals.length ≤ i) (h10 : ¬told = 10) : (im_TxnRun t own).2.1 = told := by rw [h.fin hi h10, h.ft]
theorem OnlyI.w (h : OnlyI t vals want told say keys own i) (hi : vals.length ≤ i) (h10 : ¬told = 10) : lw_lcPairs (im_TxnRun t own).1 want = true := by rw [h.fin hi h10, h.fw]; exact lcPairs_self _
theorem OnlyI.r (h : OnlyI t vals want told say keys own i) (hi : vals.length ≤ i) (h10 : ¬told = 10) : lw_lcInts (im_TxnRun t own).2.2 say = true := by rw [h.fin hi h10, h.fs]; exact lcInts_self _
theorem OnlyI.wl (h : OnlyI t vals want told say keys own i) : want.length ≤ 4 := by rw [h.fw]; exact Nat.le_trans (run_len t vals).1 h.lens.w
theorem OnlyI.sl (h : OnlyI t vals want told say keys own i) : say.length ≤ 7 := by rw [h.fs]; exact Nat.le_trans (run_len t vals).2 h.lens.r
theorem run_wl {own : List GTxnPair} (h : OnlyI t vals want told say keys own i) : (im_TxnRun t own).1.length ≤ 4 := by rw [run_eq]; exact Nat.le_trans (run_len t own).1 h.lens.w
theorem run_sl {own : List GTxnPair} (h : OnlyI t vals want told say keys own i) : (im_TxnRun t own).2.2.length ≤ 7 := by rw [run_eq]; exact Nat.le_trans (run_len t own).2 h.lens.r
theorem OnlyI.m (h : OnlyI t vals want told say keys own i) : (im_TxnRun t vals).2.1 = told := by rw [run_eq, h.ft]
end Go.Proofs.Ytghkelfpomfadaa
end
