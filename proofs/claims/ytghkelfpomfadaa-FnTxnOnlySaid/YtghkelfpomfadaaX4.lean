/- Plain facts on numbers in order and on transactions in form. -/
import Derived.Test.YtghkelfpomfadaaT4
import Derived.Test.YtghkelfpomfadaaU9
import Derived.Test.YtghkelfpomfadaaV6
import Derived.Test.YtghkelfpomfadaaU1
import Derived.Test.YtghkelfpomfadaaT3
import Derived.Test.YtghkelfpomfadaaPg
set_option linter.unusedVariables false
set_option linter.unusedSimpArgs false
section
/-! Lists of numbers that ascend. -/
namespace Go.Proofs.Ytghkelfpomfadaa
def Asc (l : List Int) : Prop := l.Pairwise (· < ·)
def ins : List Int → Int → List Int
  | [], k => [k]
  | a :: r, k => if k ≤ a then k :: (a :: r).filter (fun x => decide (x ≠ k)) else a :: ins r k
theorem mem_ins {x k : Int} : ∀ {l : List Int}, x ∈ ins l k ↔ x = k ∨ x ∈ l
  | [] => by simp [ins]
  | a :: r => by
    have ih := @mem_ins x k r
    simp only [ins]; split
    · simp only [List.mem_cons, List.mem_filter, decide_eq_true_eq]
      by_cases hx : x = k <;> simp [hx]
    · simp only [List.mem_cons, ih]
      constructor
      · rintro (h | h | h) <;> simp [h]
      · rintro (h | h | h) <;> simp [h]
theorem asc_ins {k : Int} : ∀ {l : List Int}, Asc l → Asc (ins l k)
  | [], _ => by simp [ins, Asc]
  | a :: r, h => by
    have h' := List.pairwise_cons.1 h
    simp only [ins]; split
    · rename_i hk
      refine List.pairwise_cons.2 ⟨?_, List.Pairwise.filter _ h⟩
      intro y hy
      have hy' := List.mem_filter.1 hy
      have hne : y ≠ k := of_decide_eq_true hy'.2
      rcases List.mem_cons.1 hy'.1 with e | e
      · omega
      · have := h'.1 y e; omega
    · rename_i hk
      refine List.pairwise_cons.2 ⟨?_, asc_ins h'.2⟩
      intro y hy
      rcases mem_ins.1 hy with e | e
      · omega
      · exact h'.1 y e
theorem asc_ext : ∀ {a b : List Int}, Asc a → Asc b → (∀ x, x ∈ a ↔ x ∈ b) → a = b
  | [], [], _, _, _ => rfl
  | [], y :: b, _, _, h => by have := (h y).2 (by simp); simp at this
  | x :: a, [], _, _, h => by have := (h x).1 (by simp); simp at this
  | x :: a, y :: b, ha, hb, h => by
    have ha' := List.pairwise_cons.1 ha
    have hb' := List.pairwise_cons.1 hb
    have hxy : x = y := by
      rcases List.mem_cons.1 ((h x).1 (by simp)) with e | e
      · exact e
      · rcases List.mem_cons.1 ((h y).2 (by simp)) with e' | e'
        · exact e'.symm
        · have h1 := ha'.1 y e'; have h2 := hb'.1 x e; omega
    subst hxy
    congr 1
    refine asc_ext ha'.2 hb'.2 (fun z => ?_)
    constructor
    · intro hz
      have h1 := ha'.1 z hz
      rcases List.mem_cons.1 ((h z).1 (List.mem_cons_of_mem _ hz)) with e | e
      · omega
      · exact e
    · intro hz
      have h1 := hb'.1 z hz
      rcases List.mem_cons.1 ((h z).2 (List.mem_cons_of_mem _ hz)) with e | e
      · omega
      · exact e
/-- Numbers in order. -/
def Srt (o : List Int) : Prop := ∀ i j, i < j → j < o.length → o.getD i default ≤ o.getD j default
theorem mem_getD {o : List Int} {n : Nat} (h : n < o.length) : o.getD n default ∈ o := by
  simp [List.getD_eq_getElem?_getD, h]
end Go.Proofs.Ytghkelfpomfadaa
end
section
/-! A list with one number more is that number put in its place; all keys of a transaction ascend and are those that it names. -/
namespace Go.Proofs.Ytghkelfpomfadaa
theorem drop_getD {list : List Int} {i : Nat} (h : i < list.length) : list.drop i = list.getD i default :: list.drop (i + 1) := by
  rw [List.drop_eq_getElem_cons h]; simp [List.getD_eq_getElem?_getD, h]
theorem ins_tail {a k : Int} {r : List Int} : ins (a :: r) k = if k ≤ a then k :: (a :: r).filter (fun x => decide (x ≠ k)) else a :: ins r k := rfl
theorem l1Add_L1_eq (list : List Int) (k : Int) (out : List Int) (d : Bool) (i : Nat) :
    (if (sp_l1Add_L1 list k out d i).2 = false then (sp_l1Add_L1 list k out d i).1 ++ [k] else (sp_l1Add_L1 list k out d i).1)
      = out ++ (if d = true then (list.drop i).filter (fun x => decide (x ≠ k)) else ins (list.drop i) k) := by
  fun_induction sp_l1Add_L1 list k out d i
  all_goals try (rename_i h; rw [drop_getD (by omega)] at *)
  all_goals first
    | (rw [List.drop_eq_nil_of_le (by omega)]; simp only [ins, List.filter_nil, List.append_nil]; grind)
    | (simp_all [ins]; done)
    | grind [ins, ins_tail]
theorem l1Add_ins (list : List Int) (k : Int) : sp_l1Add list k = ins list k := by
  have h := l1Add_L1_eq list k [] false 0
  simp only [List.drop_zero, List.nil_append, Bool.false_eq_true, if_false] at h
  exact h
theorem mem_l1Add {list : List Int} {k x : Int} : x ∈ sp_l1Add list k ↔ x = k ∨ x ∈ list := by rw [l1Add_ins]; exact mem_ins
theorem asc_l1Add {list : List Int} {k : Int} (h : Asc list) : Asc (sp_l1Add list k) := by rw [l1Add_ins]; exact asc_ins h
/-- The keys that a write names. -/
def wKeys (x : GTxnSum) : List Int := if x.From ≥ 0 then [x.Key, x.From] else [x.Key]
theorem drop_getDw {l : List GTxnSum} {i : Nat} (h : i < l.length) : l.drop i = l.getD i default :: l.drop (i + 1) := by
  rw [List.drop_eq_getElem_cons h]; simp [List.getD_eq_getElem?_getD, h]
theorem drop_getDg {l : List GTxnGuard} {i : Nat} (h : i < l.length) : l.drop i = l.getD i default :: l.drop (i + 1) := by
  rw [List.drop_eq_getElem_cons h]; simp [List.getD_eq_getElem?_getD, h]
theorem all_L1 (t : GTxn) (out : List Int) (i : Nat) (h : Asc out) :
    Asc (sp_TxnAll_L1 t out i) ∧ ∀ x, x ∈ sp_TxnAll_L1 t out i ↔ x ∈ out ∨ x ∈ (t.Guards.drop i).map (·.Key) := by
  fun_induction sp_TxnAll_L1 t out i
  · rename_i o j hj _ ih
    have ih := ih (asc_l1Add h)
    refine ⟨ih.1, fun x => ?_⟩
    rw [ih.2, mem_l1Add, drop_getDg (by omega : j < t.Guards.length)]
    simp only [List.map_cons, List.mem_cons]; grind
  · rename_i hj
    rw [List.drop_eq_nil_of_le (by omega)]; simp [h]
theorem all_L2 (t : GTxn) (out : List Int) (i : Nat) (h : Asc out) :
    Asc (sp_TxnAll_L2 t out i) ∧ ∀ x, x ∈ sp_TxnAll_L2 t out i ↔ x ∈ out ∨ x ∈ (t.Writes.drop i).flatMap wKeys := by
  fun_induction sp_TxnAll_L2 t out i
  · rename_i o j hj _ hf _ ih
    have ih := ih (asc_l1Add (asc_l1Add h))
    refine ⟨ih.1, fun x => ?_⟩
    rw [ih.2, mem_l1Add, mem_l1Add, drop_getDw (by omega : j < t.Writes.length)]
    simp only [List.flatMap_cons, List.mem_append, wKeys, if_pos hf, List.mem_cons, List.not_mem_nil, or_false]; grind
  · rename_i o j hj _ hf ih
    have ih := ih (asc_l1Add h)
    refine ⟨ih.1, fun x => ?_⟩
    rw [ih.2, mem_l1Add, drop_getDw (by omega : j < t.Writes.length)]
    simp only [List.flatMap_cons, List.mem_append, wKeys, if_neg hf, List.mem_cons, List.not_mem_nil, or_false]; grind
  · rename_i hj
    rw [List.drop_eq_nil_of_le (by omega)]; simp [h]
theorem all_L3 (t : GTxn) (out : List Int) (i : Nat) (h : Asc out) :
    Asc (sp_TxnAll_L3 t out i) ∧ ∀ x, x ∈ sp_TxnAll_L3 t out i ↔ x ∈ out ∨ x ∈ t.Reads.drop i := by
  fun_induction sp_TxnAll_L3 t out i
  · rename_i o j hj _ ih
    have ih := ih (asc_l1Add h)
    refine ⟨ih.1, fun x => ?_⟩
    rw [ih.2, mem_l1Add, drop_getD (by omega : j < t.Reads.length)]
    simp only [List.mem_cons]; grind
  · rename_i hj
    rw [List.drop_eq_nil_of_le (by omega)]; simp [h]
/-- All keys, as they stand. -/
def keysOf (t : GTxn) : List Int := t.Reads ++ t.Guards.map (·.Key) ++ t.Writes.flatMap wKeys
theorem TxnAll_ok {t : GTxn} (h : sp_TxnOk t = true) : Asc (sp_TxnAll t) ∧ ∀ x, x ∈ sp_TxnAll t ↔ x ∈ keysOf t := by
  have h1 := all_L1 t [] 0 List.Pairwise.nil
  have h2 := all_L2 t _ 0 h1.1
  have h3 := all_L3 t _ 0 h2.1
  simp only [sp_TxnAll, h, Bool.true_eq_false, if_false, sp_TxnAll_K1, sp_TxnAll_K2, sp_TxnAll_K3]
  refine ⟨h3.1, fun x => ?_⟩
  rw [h3.2, h2.2, h1.2]
  simp only [List.drop_zero, keysOf, List.mem_append, List.not_mem_nil, false_or]; grind
end Go.Proofs.Ytghkelfpomfadaa
end
section
/-! Insertion sort puts numbers in order, and keeps them. -/
namespace Go.Proofs.Ytghkelfpomfadaa
open Go.Ae
theorem less_eq (a b : Int) : cmp_Less_int a b = decide (a < b) := by
  simp [cmp_Less_int, cmp_isNaN_int]
theorem getD_set {l : List Int} {i k : Nat} {v : Int} : (l.set i v).getD k default = if i = k ∧ k < l.length then v else l.getD k default := by
  simp only [List.getD_eq_getElem?_getD, List.getElem?_set]
  split
  · rename_i h; subst h; split
    · rename_i h; rw [if_pos ⟨rfl, h⟩]; rfl
    · rename_i h; rw [if_neg (fun x => h x.2)]; rw [List.getElem?_eq_none (by omega)]
  · rename_i h; rw [if_neg (fun x => h x.1)]
theorem mem_iff {l : List Int} {x : Int} : x ∈ l ↔ ∃ i, i < l.length ∧ l.getD i default = x := by
  constructor
  · intro h
    obtain ⟨i, hi, e⟩ := List.mem_iff_getElem.1 h
    exact ⟨i, hi, by simp [List.getD_eq_getElem?_getD, hi, e]⟩
  · rintro ⟨i, hi, rfl⟩; exact mem_getD hi
theorem mem_swap {l : List Int} {j : Nat} (h0 : 0 < j) (hj : j < l.length) (x : Int) :
    x ∈ (l.set j (l.getD (j - 1) default)).set (j - 1) (l.getD j default) ↔ x ∈ l := by
  rw [mem_iff, mem_iff]
  constructor
  · rintro ⟨i, hi, e⟩
    simp only [List.length_set] at hi
    rw [getD_set, getD_set] at e
    simp only [List.length_set] at e
    split at e
    · exact ⟨j, hj, e⟩
    · split at e
      · exact ⟨j - 1, by omega, e⟩
      · exact ⟨i, hi, e⟩
  · rintro ⟨i, hi, e⟩
    by_cases h1 : i = j
    · refine ⟨j - 1, by simp only [List.length_set]; omega, ?_⟩
      rw [getD_set]; simp only [List.length_set]; rw [if_pos (by constructor <;> first | trivial | omega), ← h1]; exact e
    · by_cases h2 : i = j - 1
      · refine ⟨j, by simp only [List.length_set]; omega, ?_⟩
        rw [getD_set, getD_set]; simp only [List.length_set]; rw [if_neg (by omega), if_pos (by constructor <;> first | trivial | omega), ← h2]; exact e
      · refine ⟨i, by simp only [List.length_set]; omega, ?_⟩
        rw [getD_set, getD_set, if_neg (by omega), if_neg (by omega)]; exact e
theorem isort_L2 (n : Nat) : ∀ (j : Nat) (data : List Int), data.length ≤ 1000000000 → n < data.length → j ≤ n →
    (∀ p q, p < q → q ≤ n → p ≠ j → q ≠ j → data.getD p default ≤ data.getD q default) →
    (∀ q, j < q → q ≤ n → data.getD j default ≤ data.getD q default) →
    (slices_insertionSortOrdered_int_L2 0 data j).length = data.length ∧
    (∀ x, x ∈ slices_insertionSortOrdered_int_L2 0 data j ↔ x ∈ data) ∧
    (∀ p q, p < q → q ≤ n → (slices_insertionSortOrdered_int_L2 0 data j).getD p default ≤ (slices_insertionSortOrdered_int_L2 0 data j).getD q default) ∧
    (∀ p, n < p → (slices_insertionSortOrdered_int_L2 0 data j).getD p default = data.getD p default) := by
  intro j
  induction j with
  | zero =>
    intro data hl hn _ h1 h2
    rw [slices_insertionSortOrdered_int_L2, dif_pos (by omega), dif_neg (by omega)]
    refine ⟨rfl, fun x => Iff.rfl, ?_, fun _ _ => rfl⟩
    intro p q hpq hq
    by_cases hp : p = 0
    · subst hp; exact h2 q hpq hq
    · exact h1 p q hpq hq hp (by omega)
  | succ j ih =>
    intro data hl hn hj h1 h2
    have e1 : wr .i64 ((((j + 1 : Nat)) : Int) - 1) = (j : Int) := by rw [wr_id (by omega) (by omega)]; omega
    have e2 : (((j + 1 : Nat) : Int) - 1) = (j : Int) := by omega
    have e3 : wr .i64 (j : Int) = (j : Int) := wr_id (by omega) (by omega)
    rw [slices_insertionSortOrdered_int_L2, dif_pos (by omega), dif_pos (by omega)]
    simp only [e2, e3, less_eq, decide_eq_true_eq, Int.toNat_natCast]
    split
    · rename_i hlt
      have hsw : (data.set (j + 1) (data.getD j default)).set j (data.getD (j + 1) default) = (data.set (j + 1) (data.getD (j + 1 - 1) default)).set (j + 1 - 1) (data.getD (j + 1) default) := by
        simp only [Nat.add_sub_cancel]
      have g : ∀ k, ((data.set (j + 1) (data.getD j default)).set j (data.getD (j + 1) default)).getD k default = if k = j then data.getD (j + 1) default else if k = j + 1 then data.getD j default else data.getD k default := by
        intro k
        rw [getD_set, getD_set]; simp only [List.length_set]
        by_cases a1 : k = j
        · rw [if_pos a1, if_pos ⟨a1.symm, by omega⟩]
        · rw [if_neg a1, if_neg (fun x => a1 x.1.symm)]
          by_cases a2 : k = j + 1
          · rw [if_pos a2, if_pos ⟨a2.symm, by omega⟩]
          · rw [if_neg a2, if_neg (fun x => a2 x.1.symm)]
      have r := ih ((data.set (j + 1) (data.getD j default)).set j (data.getD (j + 1) default)) (by simp only [List.length_set]; exact hl) (by simp only [List.length_set]; exact hn) (by omega) ?_ ?_
      · simp only [List.length_set] at r
        refine ⟨r.1, fun x => ?_, r.2.2.1, fun p hp => ?_⟩
        · rw [r.2.1, hsw]; exact mem_swap (by omega) (by omega) x
        · rw [r.2.2.2 p hp, g, if_neg (by omega), if_neg (by omega)]
      · intro p q hpq hq hp hq'
        rw [g, g, if_neg hp, if_neg hq']
        by_cases b1 : p = j + 1
        · rw [if_pos b1, if_neg (by omega)]; exact h1 j q (by omega) hq (by omega) (by omega)
        · rw [if_neg b1]
          by_cases b2 : q = j + 1
          · rw [if_pos b2]; exact h1 p j (by omega) (by omega) b1 (by omega)
          · rw [if_neg b2]; exact h1 p q hpq hq b1 b2
      · intro q hq hqn
        rw [g, g, if_pos rfl, if_neg (by omega)]
        by_cases b2 : q = j + 1
        · rw [if_pos b2]; omega
        · rw [if_neg b2]; exact h2 q (by omega) hqn
    · rename_i hge
      refine ⟨rfl, fun x => Iff.rfl, ?_, fun _ _ => rfl⟩
      intro p q hpq hq
      by_cases hp : p = j + 1
      · subst hp; exact h2 q hpq hq
      · by_cases hq' : q = j + 1
        · subst hq'
          by_cases hp' : p = j
          · subst hp'; omega
          · have := h1 p j (by omega) (by omega) hp (by omega); omega
        · exact h1 p q hpq hq hp hq'
theorem isort_L1 (m : Nat) : ∀ (i : Nat) (data : List Int), data.length ≤ 1000000000 → data.length = i + m →
    (∀ p q, p < q → q < i → data.getD p default ≤ data.getD q default) →
    (slices_insertionSortOrdered_int_L1 0 (data.length : Int) data i).length = data.length ∧
    (∀ x, x ∈ slices_insertionSortOrdered_int_L1 0 (data.length : Int) data i ↔ x ∈ data) ∧
    Srt (slices_insertionSortOrdered_int_L1 0 (data.length : Int) data i) := by
  induction m with
  | zero =>
    intro i data hl hm h
    rw [slices_insertionSortOrdered_int_L1, dif_pos (by omega), dif_neg (by omega)]
    exact ⟨rfl, fun x => Iff.rfl, fun p q hpq hq => h p q hpq (by omega)⟩
  | succ m ih =>
    intro i data hl hm h
    rw [slices_insertionSortOrdered_int_L1, dif_pos (by omega), dif_pos (by omega)]
    have e1 : wr .i64 ((i : Int) + 1) = ((i + 1 : Nat) : Int) := by rw [wr_id (by omega) (by omega)]; omega
    simp only [e1]
    have s := isort_L2 i i data hl (by omega) (Nat.le_refl _) (fun p q hpq hq hp hq' => h p q hpq (by omega)) (fun q h1 h2 => by omega)
    have r := ih (i + 1) (slices_insertionSortOrdered_int_L2 0 data i) (by rw [s.1]; exact hl) (by rw [s.1]; omega) (fun p q hpq hq => s.2.2.1 p q hpq (by omega))
    rw [s.1] at r
    exact ⟨r.1, fun x => by rw [r.2.1, s.2.1], r.2.2⟩
theorem isort {data : List Int} (hl : data.length ≤ 1000000000) :
    (slices_insertionSortOrdered_int data 0 (data.length : Int)).length = data.length ∧
    (∀ x, x ∈ slices_insertionSortOrdered_int data 0 (data.length : Int) ↔ x ∈ data) ∧ Srt (slices_insertionSortOrdered_int data 0 (data.length : Int)) := by
  have e1 : wr .i64 ((0 : Int) + 1) = ((1 : Nat) : Int) := by rw [wr_id (by omega) (by omega)]; omega
  simp only [slices_insertionSortOrdered_int, slices_insertionSortOrdered_int_K1, e1]
  cases data with
  | nil => rw [slices_insertionSortOrdered_int_L1]; simp [Srt]
  | cons a r => exact isort_L1 r.length 1 (a :: r) hl (by simp; omega) (fun p q hpq hq => by omega)
end Go.Proofs.Ytghkelfpomfadaa
end
section
/-! Of numbers in order, those that stay when doubles fall ascend, and are the same. -/
namespace Go.Proofs.Ytghkelfpomfadaa
theorem mem_cmpR {o : List Int} {x : Int} : ∀ {n : Nat}, n ≤ o.length → (x ∈ cmpR o n ↔ ∃ i, i < n ∧ o.getD i default = x)
  | 0, _ => by simp [cmpR]
  | n + 1, h => by
    have ih := @mem_cmpR o x n (by omega)
    by_cases hd : 0 < n ∧ o.getD n default = o.getD (n - 1) default
    · rw [cmpR_eq hd.1 hd.2, ih]
      constructor
      · rintro ⟨i, hi, e⟩; exact ⟨i, by omega, e⟩
      · rintro ⟨i, hi, e⟩
        by_cases hn : i = n
        · exact ⟨n - 1, by omega, by rw [← hd.2, ← hn]; exact e⟩
        · exact ⟨i, by omega, e⟩
    · have e1 : cmpR o (n + 1) = cmpR o n ++ [o.getD n default] := by simp only [cmpR]; rw [if_neg hd]
      rw [e1, List.mem_append, ih, List.mem_singleton]
      constructor
      · rintro (⟨i, hi, e⟩ | e)
        · exact ⟨i, by omega, e⟩
        · exact ⟨n, by omega, e.symm⟩
      · rintro ⟨i, hi, e⟩
        by_cases hn : i = n
        · right; rw [← hn]; exact e.symm
        · left; exact ⟨i, by omega, e⟩
theorem asc_cmpR {o : List Int} (hs : Srt o) : ∀ {n : Nat}, n ≤ o.length → Asc (cmpR o n) 
  | 0, _ => by simp [cmpR, Asc]
  | n + 1, h => by
    have ih := @asc_cmpR o hs n (by omega)
    by_cases hd : 0 < n ∧ o.getD n default = o.getD (n - 1) default
    · rw [cmpR_eq hd.1 hd.2]; exact ih
    · have e1 : cmpR o (n + 1) = cmpR o n ++ [o.getD n default] := by simp only [cmpR]; rw [if_neg hd]
      rw [e1]
      refine List.pairwise_append.2 ⟨ih, List.pairwise_singleton _ _, ?_⟩
      intro a ha b hb
      rw [List.mem_singleton] at hb; subst hb
      obtain ⟨i, hi, rfl⟩ := (mem_cmpR (by omega)).1 ha
      have hne : ¬ o.getD n default = o.getD (n - 1) default := fun e => hd ⟨by omega, e⟩
      have h1 := hs (n - 1) n (by omega) (by omega)
      by_cases hi' : i = n - 1
      · subst hi'; omega
      · have h2 := hs i (n - 1) (by omega) (by omega); omega
end Go.Proofs.Ytghkelfpomfadaa
end
section
/-! Transactions and pairs in form: the two sides say one thing. -/
namespace Go.Proofs.Ytghkelfpomfadaa
open Go.Ae
theorem pred_nat {i : Nat} (h : 0 < i) (h1 : i ≤ 2147483648) : (wr .i64 ((i : Int) - 1)).toNat = i - 1 := by
  rw [wr_id (by omega) (by omega)]; omega
def keyB (n : Int) : Prop := 0 ≤ n ∧ n ≤ 39
def valB (n : Int) : Prop := -99999 ≤ n ∧ n ≤ 99999
def guardB (x : GTxnGuard) : Prop := keyB x.Key ∧ valB x.Least ∧ valB x.Most
def writeB (x : GTxnSum) : Prop := keyB x.Key ∧ (x.From = -1 ∨ keyB x.From) ∧ valB x.Add
def pairB (x : GTxnPair) : Prop := keyB x.Key ∧ valB x.Val
theorem wrongG (x : GTxnGuard) : im_TxnOk_1 x = true ↔ ¬guardB x := by
  simp only [im_TxnOk_1, im_isKey, im_isVal, im_in, guardB, keyB, valB, Bool.or_eq_true, Bool.not_eq_true', Bool.and_eq_true, Bool.and_eq_false_iff, decide_eq_false_iff_not, decide_eq_true_eq, bne_iff_ne, ne_eq]
  omega
theorem wrongW (x : GTxnSum) : im_TxnOk_2 x = true ↔ ¬writeB x := by
  simp only [im_TxnOk_2, im_isKey, im_isVal, im_in, writeB, keyB, valB, Bool.or_eq_true, Bool.not_eq_true', Bool.and_eq_true, Bool.and_eq_false_iff, decide_eq_false_iff_not, decide_eq_true_eq, bne_iff_ne, ne_eq]
  omega
theorem wrongR (x : Int) : im_TxnOk_3 x = true ↔ ¬keyB x := by
  simp only [im_TxnOk_3, im_isKey, im_isVal, im_in, keyB, keyB, valB, Bool.or_eq_true, Bool.not_eq_true', Bool.and_eq_true, Bool.and_eq_false_iff, decide_eq_false_iff_not, decide_eq_true_eq, bne_iff_ne, ne_eq]
  omega
theorem wrongP (x : GTxnPair) : im_pairsOk_1 x = true ↔ ¬pairB x := by
  simp only [im_pairsOk_1, im_isKey, im_isVal, im_in, pairB, keyB, valB, Bool.or_eq_true, Bool.not_eq_true', Bool.and_eq_true, Bool.and_eq_false_iff, decide_eq_false_iff_not, decide_eq_true_eq, bne_iff_ne, ne_eq]
  omega
theorem contG_iff (l : List GTxnGuard) : slices_ContainsFunc_TxnGuard_f_im_TxnOk_1 l = false ↔ ∀ k, k < l.length → guardB (l.getD k default) := by
  have hloop := loop_find (n := l.length) (slices_IndexFunc_TxnGuard_f_im_TxnOk_1_L1 l) (fun k => ¬guardB (l.getD k default)) (fun k => (k : Int))
    (fun i hi => by
      rw [slices_IndexFunc_TxnGuard_f_im_TxnOk_1_L1, dif_pos (by omega)]
      simp only [Int.toNat_natCast]
      exact ⟨fun h => by rw [if_pos (wrongG _ |>.2 h)], fun h => by rw [if_neg (by rw [wrongG]; exact h)]⟩)
    (fun i hi => by rw [slices_IndexFunc_TxnGuard_f_im_TxnOk_1_L1, dif_neg (by omega)]) 0
  unfold slices_ContainsFunc_TxnGuard_f_im_TxnOk_1
  rw [decide_eq_false_iff_not]
  rcases hloop with ⟨e, hall⟩ | ⟨k, _, hk, hb, _, e⟩
  · have hI : slices_IndexFunc_TxnGuard_f_im_TxnOk_1 l = -1 := by simp only [slices_IndexFunc_TxnGuard_f_im_TxnOk_1, slices_IndexFunc_TxnGuard_f_im_TxnOk_1_K1, e]
    rw [hI]
    refine ⟨fun _ k hk => ?_, fun _ => by omega⟩
    by_cases h : guardB (l.getD k default)
    · exact h
    · exact absurd h (hall k (Nat.zero_le _) hk)
  · have hI : slices_IndexFunc_TxnGuard_f_im_TxnOk_1 l = k := by simp only [slices_IndexFunc_TxnGuard_f_im_TxnOk_1, slices_IndexFunc_TxnGuard_f_im_TxnOk_1_K1, e]
    rw [hI]
    refine ⟨fun h => by omega, fun h => absurd (h k hk) hb⟩
theorem contW_iff (l : List GTxnSum) : slices_ContainsFunc_TxnSum_f_im_TxnOk_2 l = false ↔ ∀ k, k < l.length → writeB (l.getD k default) := by
  have hloop := loop_find (n := l.length) (slices_IndexFunc_TxnSum_f_im_TxnOk_2_L1 l) (fun k => ¬writeB (l.getD k default)) (fun k => (k : Int))
    (fun i hi => by
      rw [slices_IndexFunc_TxnSum_f_im_TxnOk_2_L1, dif_pos (by omega)]
      simp only [Int.toNat_natCast]
      exact ⟨fun h => by rw [if_pos (wrongW _ |>.2 h)], fun h => by rw [if_neg (by rw [wrongW]; exact h)]⟩)
    (fun i hi => by rw [slices_IndexFunc_TxnSum_f_im_TxnOk_2_L1, dif_neg (by omega)]) 0
  unfold slices_ContainsFunc_TxnSum_f_im_TxnOk_2
  rw [decide_eq_false_iff_not]
  rcases hloop with ⟨e, hall⟩ | ⟨k, _, hk, hb, _, e⟩
  · have hI : slices_IndexFunc_TxnSum_f_im_TxnOk_2 l = -1 := by simp only [slices_IndexFunc_TxnSum_f_im_TxnOk_2, slices_IndexFunc_TxnSum_f_im_TxnOk_2_K1, e]
    rw [hI]
    refine ⟨fun _ k hk => ?_, fun _ => by omega⟩
    by_cases h : writeB (l.getD k default)
    · exact h
    · exact absurd h (hall k (Nat.zero_le _) hk)
  · have hI : slices_IndexFunc_TxnSum_f_im_TxnOk_2 l = k := by simp only [slices_IndexFunc_TxnSum_f_im_TxnOk_2, slices_IndexFunc_TxnSum_f_im_TxnOk_2_K1, e]
    rw [hI]
    refine ⟨fun h => by omega, fun h => absurd (h k hk) hb⟩
theorem contR_iff (l : List Int) : slices_ContainsFunc_int_f_im_TxnOk_3 l = false ↔ ∀ k, k < l.length → keyB (l.getD k default) := by
  have hloop := loop_find (n := l.length) (slices_IndexFunc_int_f_im_TxnOk_3_L1 l) (fun k => ¬keyB (l.getD k default)) (fun k => (k : Int))
    (fun i hi => by
      rw [slices_IndexFunc_int_f_im_TxnOk_3_L1, dif_pos (by omega)]
      simp only [Int.toNat_natCast]
      exact ⟨fun h => by rw [if_pos (wrongR _ |>.2 h)], fun h => by rw [if_neg (by rw [wrongR]; exact h)]⟩)
    (fun i hi => by rw [slices_IndexFunc_int_f_im_TxnOk_3_L1, dif_neg (by omega)]) 0
  unfold slices_ContainsFunc_int_f_im_TxnOk_3
  rw [decide_eq_false_iff_not]
  rcases hloop with ⟨e, hall⟩ | ⟨k, _, hk, hb, _, e⟩
  · have hI : slices_IndexFunc_int_f_im_TxnOk_3 l = -1 := by simp only [slices_IndexFunc_int_f_im_TxnOk_3, slices_IndexFunc_int_f_im_TxnOk_3_K1, e]
    rw [hI]
    refine ⟨fun _ k hk => ?_, fun _ => by omega⟩
    by_cases h : keyB (l.getD k default)
    · exact h
    · exact absurd h (hall k (Nat.zero_le _) hk)
  · have hI : slices_IndexFunc_int_f_im_TxnOk_3 l = k := by simp only [slices_IndexFunc_int_f_im_TxnOk_3, slices_IndexFunc_int_f_im_TxnOk_3_K1, e]
    rw [hI]
    refine ⟨fun h => by omega, fun h => absurd (h k hk) hb⟩
theorem contP_iff (l : List GTxnPair) : slices_ContainsFunc_TxnPair_f_im_pairsOk_1 l = false ↔ ∀ k, k < l.length → pairB (l.getD k default) := by
  have hloop := loop_find (n := l.length) (slices_IndexFunc_TxnPair_f_im_pairsOk_1_L1 l) (fun k => ¬pairB (l.getD k default)) (fun k => (k : Int))
    (fun i hi => by
      rw [slices_IndexFunc_TxnPair_f_im_pairsOk_1_L1, dif_pos (by omega)]
      simp only [Int.toNat_natCast]
      exact ⟨fun h => by rw [if_pos (wrongP _ |>.2 h)], fun h => by rw [if_neg (by rw [wrongP]; exact h)]⟩)
    (fun i hi => by rw [slices_IndexFunc_TxnPair_f_im_pairsOk_1_L1, dif_neg (by omega)]) 0
  unfold slices_ContainsFunc_TxnPair_f_im_pairsOk_1
  rw [decide_eq_false_iff_not]
  rcases hloop with ⟨e, hall⟩ | ⟨k, _, hk, hb, _, e⟩
  · have hI : slices_IndexFunc_TxnPair_f_im_pairsOk_1 l = -1 := by simp only [slices_IndexFunc_TxnPair_f_im_pairsOk_1, slices_IndexFunc_TxnPair_f_im_pairsOk_1_K1, e]
    rw [hI]
    refine ⟨fun _ k hk => ?_, fun _ => by omega⟩
    by_cases h : pairB (l.getD k default)
    · exact h
    · exact absurd h (hall k (Nat.zero_le _) hk)
  · have hI : slices_IndexFunc_TxnPair_f_im_pairsOk_1 l = k := by simp only [slices_IndexFunc_TxnPair_f_im_pairsOk_1, slices_IndexFunc_TxnPair_f_im_pairsOk_1_K1, e]
    rw [hI]
    refine ⟨fun h => by omega, fun h => absurd (h k hk) hb⟩
theorem riseG_iff (l : List GTxnGuard) (hl : l.length ≤ 1000000) : im_rising_TxnGuard_f_im_TxnOk_4 l = true ↔ ∀ k, 0 < k → k < l.length → (l.getD (k - 1) default).Key < (l.getD k default).Key := by
  have hloop := loop_all (n := l.length) (fun i => if i = 0 then im_rising_TxnGuard_f_im_TxnOk_4_L1 l 1 else im_rising_TxnGuard_f_im_TxnOk_4_L1 l i) (fun k => 0 < k ∧ ¬(l.getD (k - 1) default).Key < (l.getD k default).Key) false
    (fun i hi => by
      by_cases hz : i = 0
      · subst hz; simp
      · simp only [hz, if_false]
        rw [im_rising_TxnGuard_f_im_TxnOk_4_L1, dif_pos (by omega), pred_nat (by omega) (by omega)]
        simp only [show i + 1 ≠ 0 by omega, if_false]
        constructor
        · rintro ⟨h0, hb⟩; rw [if_pos (by simp only [im_TxnOk_4]; omega)]
        · intro hb; rw [if_neg (by intro hc; simp only [im_TxnOk_4] at hc; exact hb ⟨by omega, by omega⟩)])
    (fun i hi => by
      by_cases hz : i = 0
      · subst hz; simp only [if_true]; rw [im_rising_TxnGuard_f_im_TxnOk_4_L1, dif_neg (by omega)]
      · simp only [hz, if_false]; rw [im_rising_TxnGuard_f_im_TxnOk_4_L1, dif_neg (by omega)]) 0
  simp only [if_true] at hloop
  simp only [im_rising_TxnGuard_f_im_TxnOk_4, im_rising_TxnGuard_f_im_TxnOk_4_K1]
  rcases hloop with ⟨e, hall⟩ | ⟨e, k, _, hk, h0, hb⟩
  · rw [e]
    simp only [true_iff]
    intro k h0 hk
    by_cases h : (l.getD (k - 1) default).Key < (l.getD k default).Key
    · exact h
    · exact absurd ⟨h0, h⟩ (hall k (Nat.zero_le _) hk)
  · rw [e]
    simp only [Bool.false_eq_true, false_iff]
    intro h; exact hb (h k h0 hk)
theorem riseW_iff (l : List GTxnSum) (hl : l.length ≤ 1000000) : im_rising_TxnSum_f_im_TxnOk_5 l = true ↔ ∀ k, 0 < k → k < l.length → (l.getD (k - 1) default).Key < (l.getD k default).Key := by
  have hloop := loop_all (n := l.length) (fun i => if i = 0 then im_rising_TxnSum_f_im_TxnOk_5_L1 l 1 else im_rising_TxnSum_f_im_TxnOk_5_L1 l i) (fun k => 0 < k ∧ ¬(l.getD (k - 1) default).Key < (l.getD k default).Key) false
    (fun i hi => by
      by_cases hz : i = 0
      · subst hz; simp
      · simp only [hz, if_false]
        rw [im_rising_TxnSum_f_im_TxnOk_5_L1, dif_pos (by omega), pred_nat (by omega) (by omega)]
        simp only [show i + 1 ≠ 0 by omega, if_false]
        constructor
        · rintro ⟨h0, hb⟩; rw [if_pos (by simp only [im_TxnOk_5]; omega)]
        · intro hb; rw [if_neg (by intro hc; simp only [im_TxnOk_5] at hc; exact hb ⟨by omega, by omega⟩)])
    (fun i hi => by
      by_cases hz : i = 0
      · subst hz; simp only [if_true]; rw [im_rising_TxnSum_f_im_TxnOk_5_L1, dif_neg (by omega)]
      · simp only [hz, if_false]; rw [im_rising_TxnSum_f_im_TxnOk_5_L1, dif_neg (by omega)]) 0
  simp only [if_true] at hloop
  simp only [im_rising_TxnSum_f_im_TxnOk_5, im_rising_TxnSum_f_im_TxnOk_5_K1]
  rcases hloop with ⟨e, hall⟩ | ⟨e, k, _, hk, h0, hb⟩
  · rw [e]
    simp only [true_iff]
    intro k h0 hk
    by_cases h : (l.getD (k - 1) default).Key < (l.getD k default).Key
    · exact h
    · exact absurd ⟨h0, h⟩ (hall k (Nat.zero_le _) hk)
  · rw [e]
    simp only [Bool.false_eq_true, false_iff]
    intro h; exact hb (h k h0 hk)
theorem riseR_iff (l : List Int) (hl : l.length ≤ 1000000) : im_rising_int_f_im_own l = true ↔ ∀ k, 0 < k → k < l.length → (l.getD (k - 1) default) < (l.getD k default) := by
  have hloop := loop_all (n := l.length) (fun i => if i = 0 then im_rising_int_f_im_own_L1 l 1 else im_rising_int_f_im_own_L1 l i) (fun k => 0 < k ∧ ¬(l.getD (k - 1) default) < (l.getD k default)) false
    (fun i hi => by
      by_cases hz : i = 0
      · subst hz; simp
      · simp only [hz, if_false]
        rw [im_rising_int_f_im_own_L1, dif_pos (by omega), pred_nat (by omega) (by omega)]
        simp only [show i + 1 ≠ 0 by omega, if_false]
        constructor
        · rintro ⟨h0, hb⟩; rw [if_pos (by simp only [im_own]; omega)]
        · intro hb; rw [if_neg (by intro hc; simp only [im_own] at hc; exact hb ⟨by omega, by omega⟩)])
    (fun i hi => by
      by_cases hz : i = 0
      · subst hz; simp only [if_true]; rw [im_rising_int_f_im_own_L1, dif_neg (by omega)]
      · simp only [hz, if_false]; rw [im_rising_int_f_im_own_L1, dif_neg (by omega)]) 0
  simp only [if_true] at hloop
  simp only [im_rising_int_f_im_own, im_rising_int_f_im_own_K1]
  rcases hloop with ⟨e, hall⟩ | ⟨e, k, _, hk, h0, hb⟩
  · rw [e]
    simp only [true_iff]
    intro k h0 hk
    by_cases h : (l.getD (k - 1) default) < (l.getD k default)
    · exact h
    · exact absurd ⟨h0, h⟩ (hall k (Nat.zero_le _) hk)
  · rw [e]
    simp only [Bool.false_eq_true, false_iff]
    intro h; exact hb (h k h0 hk)
theorem riseP_iff (l : List GTxnPair) (hl : l.length ≤ 1000000) : im_rising_TxnPair_f_im_keyOf l = true ↔ ∀ k, 0 < k → k < l.length → (l.getD (k - 1) default).Key < (l.getD k default).Key := by
  have hloop := loop_all (n := l.length) (fun i => if i = 0 then im_rising_TxnPair_f_im_keyOf_L1 l 1 else im_rising_TxnPair_f_im_keyOf_L1 l i) (fun k => 0 < k ∧ ¬(l.getD (k - 1) default).Key < (l.getD k default).Key) false
    (fun i hi => by
      by_cases hz : i = 0
      · subst hz; simp
      · simp only [hz, if_false]
        rw [im_rising_TxnPair_f_im_keyOf_L1, dif_pos (by omega), pred_nat (by omega) (by omega)]
        simp only [show i + 1 ≠ 0 by omega, if_false]
        constructor
        · rintro ⟨h0, hb⟩; rw [if_pos (by simp only [im_keyOf]; omega)]
        · intro hb; rw [if_neg (by intro hc; simp only [im_keyOf] at hc; exact hb ⟨by omega, by omega⟩)])
    (fun i hi => by
      by_cases hz : i = 0
      · subst hz; simp only [if_true]; rw [im_rising_TxnPair_f_im_keyOf_L1, dif_neg (by omega)]
      · simp only [hz, if_false]; rw [im_rising_TxnPair_f_im_keyOf_L1, dif_neg (by omega)]) 0
  simp only [if_true] at hloop
  simp only [im_rising_TxnPair_f_im_keyOf, im_rising_TxnPair_f_im_keyOf_K1]
  rcases hloop with ⟨e, hall⟩ | ⟨e, k, _, hk, h0, hb⟩
  · rw [e]
    simp only [true_iff]
    intro k h0 hk
    by_cases h : (l.getD (k - 1) default).Key < (l.getD k default).Key
    · exact h
    · exact absurd ⟨h0, h⟩ (hall k (Nat.zero_le _) hk)
  · rw [e]
    simp only [Bool.false_eq_true, false_iff]
    intro h; exact hb (h k h0 hk)
theorem l1Key_f {n : Int} : sp_l1Key n = false ↔ ¬keyB n := by
  simp only [sp_l1Key, sp_l6In, keyB, Bool.and_eq_false_iff, decide_eq_false_iff_not]; omega
theorem l1Val_f {n : Int} : sp_l1Val n = false ↔ ¬valB n := by
  simp only [sp_l1Val, sp_l6In, valB, Bool.and_eq_false_iff, decide_eq_false_iff_not]; omega
theorem spG (t : GTxn) (hl : t.Guards.length ≤ 1000000) : (sp_TxnOk_L1 t 0 = .go () ∧ ((∀ k, k < t.Guards.length → guardB (t.Guards.getD k default)) ∧ ∀ k, 0 < k → k < t.Guards.length → (t.Guards.getD (k - 1) default).Key < (t.Guards.getD k default).Key)) ∨
    (sp_TxnOk_L1 t 0 = .ret false ∧ ¬((∀ k, k < t.Guards.length → guardB (t.Guards.getD k default)) ∧ ∀ k, 0 < k → k < t.Guards.length → (t.Guards.getD (k - 1) default).Key < (t.Guards.getD k default).Key)) := by
  have hloop := loop_all (n := t.Guards.length) (sp_TxnOk_L1 t) (fun k => ¬guardB (t.Guards.getD k default) ∨ (0 < k ∧ ¬(t.Guards.getD (k - 1) default).Key < (t.Guards.getD k default).Key)) false
      (fun i hi => by
        rw [sp_TxnOk_L1, dif_pos (by omega)]
        have e : 0 < i → (wr .i64 ((i : Int) - 1)).toNat = i - 1 := fun h => pred_nat h (by omega)
        simp only [guardB, keyB, valB]
        constructor
        · intro hb
          rw [if_pos]
          simp only [l1Key_f, l1Val_f, keyB, valB] at hb ⊢
          rcases hb with hb | ⟨h0, hb⟩
          · omega
          · rw [e h0]; omega
        · intro hb
          rw [if_neg]
          intro hc
          simp only [l1Key_f, l1Val_f, keyB, valB] at hb hc
          apply hb
          by_cases h0 : 0 < i
          · rw [e h0] at hc; omega
          · left; omega)
      (fun i hi => by rw [sp_TxnOk_L1, dif_neg (by omega)]) 0
  rcases hloop with ⟨e, hall⟩ | ⟨e, k, _, hk, hb⟩
  · refine .inl ⟨e, fun k hk => ?_, fun k h0 hk => ?_⟩
    · by_cases h : guardB (t.Guards.getD k default)
      · exact h
      · exact absurd (.inl h) (hall k (Nat.zero_le _) hk)
    · by_cases h : (t.Guards.getD (k - 1) default).Key < (t.Guards.getD k default).Key
      · exact h
      · exact absurd (.inr ⟨h0, h⟩) (hall k (Nat.zero_le _) hk)
  · refine .inr ⟨e, fun hx => ?_⟩
    rcases hb with hb | ⟨h0, hb⟩
    · exact hb (hx.1 k hk)
    · exact hb (hx.2 k h0 hk)
theorem spW (t : GTxn) (hl : t.Writes.length ≤ 1000000) : (sp_TxnOk_L2 t 0 = .go () ∧ ((∀ k, k < t.Writes.length → writeB (t.Writes.getD k default)) ∧ ∀ k, 0 < k → k < t.Writes.length → (t.Writes.getD (k - 1) default).Key < (t.Writes.getD k default).Key)) ∨
    (sp_TxnOk_L2 t 0 = .ret false ∧ ¬((∀ k, k < t.Writes.length → writeB (t.Writes.getD k default)) ∧ ∀ k, 0 < k → k < t.Writes.length → (t.Writes.getD (k - 1) default).Key < (t.Writes.getD k default).Key)) := by
  have hloop := loop_all (n := t.Writes.length) (sp_TxnOk_L2 t) (fun k => ¬writeB (t.Writes.getD k default) ∨ (0 < k ∧ ¬(t.Writes.getD (k - 1) default).Key < (t.Writes.getD k default).Key)) false
      (fun i hi => by
        rw [sp_TxnOk_L2, dif_pos (by omega)]
        have e : 0 < i → (wr .i64 ((i : Int) - 1)).toNat = i - 1 := fun h => pred_nat h (by omega)
        simp only [writeB, keyB, valB]
        constructor
        · intro hb
          rw [if_pos]
          simp only [l1Key_f, l1Val_f, keyB, valB] at hb ⊢
          rcases hb with hb | ⟨h0, hb⟩
          · omega
          · rw [e h0]; omega
        · intro hb
          rw [if_neg]
          intro hc
          simp only [l1Key_f, l1Val_f, keyB, valB] at hb hc
          apply hb
          by_cases h0 : 0 < i
          · rw [e h0] at hc; omega
          · left; omega)
      (fun i hi => by rw [sp_TxnOk_L2, dif_neg (by omega)]) 0
  rcases hloop with ⟨e, hall⟩ | ⟨e, k, _, hk, hb⟩
  · refine .inl ⟨e, fun k hk => ?_, fun k h0 hk => ?_⟩
    · by_cases h : writeB (t.Writes.getD k default)
      · exact h
      · exact absurd (.inl h) (hall k (Nat.zero_le _) hk)
    · by_cases h : (t.Writes.getD (k - 1) default).Key < (t.Writes.getD k default).Key
      · exact h
      · exact absurd (.inr ⟨h0, h⟩) (hall k (Nat.zero_le _) hk)
  · refine .inr ⟨e, fun hx => ?_⟩
    rcases hb with hb | ⟨h0, hb⟩
    · exact hb (hx.1 k hk)
    · exact hb (hx.2 k h0 hk)
theorem spR (t : GTxn) (hl : t.Reads.length ≤ 1000000) : (sp_TxnOk_L3 t 0 = .go () ∧ ((∀ k, k < t.Reads.length → keyB (t.Reads.getD k default)) ∧ ∀ k, 0 < k → k < t.Reads.length → (t.Reads.getD (k - 1) default) < (t.Reads.getD k default))) ∨
    (sp_TxnOk_L3 t 0 = .ret false ∧ ¬((∀ k, k < t.Reads.length → keyB (t.Reads.getD k default)) ∧ ∀ k, 0 < k → k < t.Reads.length → (t.Reads.getD (k - 1) default) < (t.Reads.getD k default))) := by
  have hloop := loop_all (n := t.Reads.length) (sp_TxnOk_L3 t) (fun k => ¬keyB (t.Reads.getD k default) ∨ (0 < k ∧ ¬(t.Reads.getD (k - 1) default) < (t.Reads.getD k default))) false
      (fun i hi => by
        rw [sp_TxnOk_L3, dif_pos (by omega)]
        have e : 0 < i → (wr .i64 ((i : Int) - 1)).toNat = i - 1 := fun h => pred_nat h (by omega)
        simp only [keyB]
        constructor
        · intro hb
          rw [if_pos]
          simp only [l1Key_f, l1Val_f, keyB, valB] at hb ⊢
          rcases hb with hb | ⟨h0, hb⟩
          · omega
          · rw [e h0]; omega
        · intro hb
          rw [if_neg]
          intro hc
          simp only [l1Key_f, l1Val_f, keyB, valB] at hb hc
          apply hb
          by_cases h0 : 0 < i
          · rw [e h0] at hc; omega
          · left; omega)
      (fun i hi => by rw [sp_TxnOk_L3, dif_neg (by omega)]) 0
  rcases hloop with ⟨e, hall⟩ | ⟨e, k, _, hk, hb⟩
  · refine .inl ⟨e, fun k hk => ?_, fun k h0 hk => ?_⟩
    · by_cases h : keyB (t.Reads.getD k default)
      · exact h
      · exact absurd (.inl h) (hall k (Nat.zero_le _) hk)
    · by_cases h : (t.Reads.getD (k - 1) default) < (t.Reads.getD k default)
      · exact h
      · exact absurd (.inr ⟨h0, h⟩) (hall k (Nat.zero_le _) hk)
  · refine .inr ⟨e, fun hx => ?_⟩
    rcases hb with hb | ⟨h0, hb⟩
    · exact hb (hx.1 k hk)
    · exact hb (hx.2 k h0 hk)
theorem spP (t : List GTxnPair) (hl : t.length ≤ 1000000) : (sp_l1PairsOk_L1 t 0 = .go () ∧ ((∀ k, k < t.length → pairB (t.getD k default)) ∧ ∀ k, 0 < k → k < t.length → (t.getD (k - 1) default).Key < (t.getD k default).Key)) ∨
    (sp_l1PairsOk_L1 t 0 = .ret false ∧ ¬((∀ k, k < t.length → pairB (t.getD k default)) ∧ ∀ k, 0 < k → k < t.length → (t.getD (k - 1) default).Key < (t.getD k default).Key)) := by
  have hloop := loop_all (n := t.length) (sp_l1PairsOk_L1 t) (fun k => ¬pairB (t.getD k default) ∨ (0 < k ∧ ¬(t.getD (k - 1) default).Key < (t.getD k default).Key)) false
      (fun i hi => by
        rw [sp_l1PairsOk_L1, dif_pos (by omega)]
        have e : 0 < i → (wr .i64 ((i : Int) - 1)).toNat = i - 1 := fun h => pred_nat h (by omega)
        simp only [pairB, keyB, valB]
        constructor
        · intro hb
          rw [if_pos]
          simp only [l1Key_f, l1Val_f, keyB, valB] at hb ⊢
          rcases hb with hb | ⟨h0, hb⟩
          · omega
          · rw [e h0]; omega
        · intro hb
          rw [if_neg]
          intro hc
          simp only [l1Key_f, l1Val_f, keyB, valB] at hb hc
          apply hb
          by_cases h0 : 0 < i
          · rw [e h0] at hc; omega
          · left; omega)
      (fun i hi => by rw [sp_l1PairsOk_L1, dif_neg (by omega)]) 0
  rcases hloop with ⟨e, hall⟩ | ⟨e, k, _, hk, hb⟩
  · refine .inl ⟨e, fun k hk => ?_, fun k h0 hk => ?_⟩
    · by_cases h : pairB (t.getD k default)
      · exact h
      · exact absurd (.inl h) (hall k (Nat.zero_le _) hk)
    · by_cases h : (t.getD (k - 1) default).Key < (t.getD k default).Key
      · exact h
      · exact absurd (.inr ⟨h0, h⟩) (hall k (Nat.zero_le _) hk)
  · refine .inr ⟨e, fun hx => ?_⟩
    rcases hb with hb | ⟨h0, hb⟩
    · exact hb (hx.1 k hk)
    · exact hb (hx.2 k h0 hk)
def OkX (t : GTxn) : Prop := (t.Guards.length ≤ 4 ∧ t.Writes.length ≤ 4 ∧ t.Reads.length ≤ 4 ∧ 0 < t.Guards.length + t.Writes.length + t.Reads.length) ∧
  ((∀ k, k < t.Guards.length → guardB (t.Guards.getD k default)) ∧ ∀ k, 0 < k → k < t.Guards.length → (t.Guards.getD (k - 1) default).Key < (t.Guards.getD k default).Key) ∧
  ((∀ k, k < t.Writes.length → writeB (t.Writes.getD k default)) ∧ ∀ k, 0 < k → k < t.Writes.length → (t.Writes.getD (k - 1) default).Key < (t.Writes.getD k default).Key) ∧
  ((∀ k, k < t.Reads.length → keyB (t.Reads.getD k default)) ∧ ∀ k, 0 < k → k < t.Reads.length → (t.Reads.getD (k - 1) default) < (t.Reads.getD k default))
def OkPs (l : List GTxnPair) : Prop := l.length ≤ 40 ∧ (∀ k, k < l.length → pairB (l.getD k default)) ∧ ∀ k, 0 < k → k < l.length → (l.getD (k - 1) default).Key < (l.getD k default).Key
theorem spTxnOk_iff (t : GTxn) : sp_TxnOk t = true ↔ OkX t := by
  unfold sp_TxnOk
  split
  · rename_i hc
    constructor
    · intro h; cases h
    · rintro ⟨⟨h1, h2, h3, h4⟩, _⟩
      simp (disch := omega) only [wr_id] at hc
      omega
  · rename_i hc
    have hc' : t.Guards.length ≤ 4 ∧ t.Writes.length ≤ 4 ∧ t.Reads.length ≤ 4 := by omega
    simp (disch := omega) only [wr_id] at hc
    simp only [sp_TxnOk_K1]
    rcases spG t (by omega) with ⟨e, h⟩ | ⟨e, h⟩
    · rw [e]; simp only [sp_TxnOk_K2]
      rcases spW t (by omega) with ⟨e', h'⟩ | ⟨e', h'⟩
      · rw [e']; simp only [sp_TxnOk_K3]
        rcases spR t (by omega) with ⟨e2, h2⟩ | ⟨e2, h2⟩
        · rw [e2]; simp only [true_iff]
          exact ⟨⟨by omega, by omega, by omega, by omega⟩, h, h', h2⟩
        · rw [e2]; simp only [Bool.false_eq_true, false_iff]; rintro ⟨_, _, _, x⟩; exact h2 x
      · rw [e']; simp only [Bool.false_eq_true, false_iff]; rintro ⟨_, _, x, _⟩; exact h' x
    · rw [e]; simp only [Bool.false_eq_true, false_iff]; rintro ⟨_, x, _⟩; exact h x
theorem spPairsOk_iff (l : List GTxnPair) : sp_l1PairsOk l = true ↔ OkPs l := by
  unfold sp_l1PairsOk
  split
  · rename_i hc
    constructor
    · intro h; cases h
    · rintro ⟨h1, _⟩; omega
  · rename_i hc
    simp only [sp_l1PairsOk_K1]
    rcases spP l (by omega) with ⟨e, h⟩ | ⟨e, h⟩
    · rw [e]; simp only [true_iff]; exact ⟨by omega, h⟩
    · rw [e]; simp only [Bool.false_eq_true, false_iff]; rintro ⟨_, x⟩; exact h x
theorem imPairsOk_iff (l : List GTxnPair) : im_pairsOk l = true ↔ OkPs l := by
  by_cases hl : l.length ≤ 40
  · simp only [im_pairsOk, OkPs, Bool.and_eq_true, decide_eq_true_eq, Bool.not_eq_true', contP_iff, riseP_iff l (by omega)]
    grind
  · simp only [im_pairsOk, OkPs, Bool.and_eq_true, decide_eq_true_eq]
    constructor
    · rintro ⟨⟨h, _⟩, _⟩; omega
    · rintro ⟨h, _⟩; omega
theorem max3_gt (a b c : Int) : ((if c > (if b > a then b else a) then c else (if b > a then b else a)) > 4) ↔ (a > 4 ∨ b > 4 ∨ c > 4) := by
  by_cases h : b > a
  · simp only [if_pos h]
    by_cases h' : c > b
    · simp only [if_pos h']; omega
    · simp only [if_neg h']; omega
  · simp only [if_neg h]
    by_cases h' : c > a
    · simp only [if_pos h']; omega
    · simp only [if_neg h']; omega
theorem imTxnOk_iff (t : GTxn) : im_TxnOk t = true ↔ OkX t := by
  simp only [im_TxnOk, max3_gt]
  split
  · rename_i hc
    constructor
    · intro h; cases h
    · rintro ⟨⟨h1, h2, h3, h4⟩, _⟩
      simp (disch := omega) only [wr_id] at hc
      omega
  · rename_i hc
    have hc' : t.Guards.length ≤ 4 ∧ t.Writes.length ≤ 4 ∧ t.Reads.length ≤ 4 := by omega
    simp (disch := omega) only [wr_id] at hc
    split
    · rename_i hd
      constructor
      · intro h; cases h
      · rintro ⟨_, hg, hw, hr⟩
        rw [← contG_iff] at hg; rw [← contW_iff] at hw; rw [← contR_iff] at hr
        rw [hg.1, hw.1, hr.1] at hd; simp at hd
    · rename_i hd
      have hd' : slices_ContainsFunc_TxnGuard_f_im_TxnOk_1 t.Guards = false ∧ slices_ContainsFunc_TxnSum_f_im_TxnOk_2 t.Writes = false ∧ slices_ContainsFunc_int_f_im_TxnOk_3 t.Reads = false := by
        simp only [not_or, Bool.not_eq_true] at hd; exact ⟨hd.1.1, hd.1.2, hd.2⟩
      rw [contG_iff, contW_iff, contR_iff] at hd'
      simp only [Bool.and_eq_true, riseG_iff _ (show t.Guards.length ≤ 1000000 by omega), riseW_iff _ (show t.Writes.length ≤ 1000000 by omega), riseR_iff _ (show t.Reads.length ≤ 1000000 by omega)]
      constructor
      · rintro ⟨⟨a, b⟩, c⟩; exact ⟨⟨by omega, by omega, by omega, by omega⟩, ⟨hd'.1, a⟩, ⟨hd'.2.1, b⟩, ⟨hd'.2.2, c⟩⟩
      · rintro ⟨_, ⟨_, a⟩, ⟨_, b⟩, ⟨_, c⟩⟩; exact ⟨⟨a, b⟩, c⟩
theorem txnOk_eq (t : GTxn) : im_TxnOk t = sp_TxnOk t := by
  rw [Bool.eq_iff_iff, imTxnOk_iff, spTxnOk_iff]
theorem pairsOk_eq (l : List GTxnPair) : im_pairsOk l = sp_l1PairsOk l := by
  rw [Bool.eq_iff_iff, imPairsOk_iff, spPairsOk_iff]
end Go.Proofs.Ytghkelfpomfadaa
end
