/- Plain facts on plans: the two sides do one thing with a command. No condition. -/
import Derived.Test.YtlojldccjmkikaaGreatH5
import Derived.Test.YtlojldccjmkikaaGreatP1
import Derived.Test.YtlojldccjmkikaaGreatH7
import Derived.Test.YtlojldccjmkikaaGreatPg
import Derived.Test.YtlojldccjmkikaaGreatH6
import Derived.Test.YtlojldccjmkikaaGreatH3
set_option linter.unusedVariables false
set_option linter.unusedSimpArgs false
section
/-! Plain facts on plans: what is ok; that the two sides do one thing. -/
namespace Go.Proofs.YtlojldccjmkikaaGreat
open Go.Ae
theorem pred_nat {i : Nat} (h : 0 < i) (h1 : i ≤ 2147483648) : (wr .i64 ((i : Int) - 1)).toNat = i - 1 := by
  rw [wr_id (by omega) (by omega)]; omega
def seenB (x : GPlanSeen) : Prop := (0 ≤ x.Session ∧ x.Session ≤ 3) ∧ (1 ≤ x.Call ∧ x.Call ≤ 9999) ∧ (-1 ≤ x.Code ∧ x.Code ≤ 10)
def SeenOk (l : List GPlanSeen) : Prop := l.length ≤ 4 ∧ (∀ k, k < l.length → seenB (l.getD k default)) ∧ ∀ k, 0 < k → k < l.length → (l.getD (k - 1) default).Session < (l.getD k default).Session
def OkP (p : GPlan) : Prop := (0 ≤ p.At ∧ p.At ≤ 60) ∧ OkT p.Table ∧ SeenOk p.Seen ∧ (1 ≤ p.Old ∧ p.Old ≤ 31) ∧ (0 ≤ p.New ∧ p.New ≤ 31)
theorem l6In_f {n a b : Int} : sp_l6In n a b = false ↔ ¬(a ≤ n ∧ n ≤ b) := by
  rw [← l6In_iff]; simp
theorem spPlanOk_iff (p : GPlan) : sp_PlanOk p = true ↔ OkP p := by
  unfold sp_PlanOk OkP SeenOk
  rw [l2Full_val]
  by_cases hl : p.Seen.length ≤ 4
  · have hloop := loop_all (n := p.Seen.length) (sp_PlanOk_L1 p) (fun k => ¬seenB (p.Seen.getD k default) ∨ (0 < k ∧ ¬(p.Seen.getD (k - 1) default).Session < (p.Seen.getD k default).Session)) false
      (fun i hi => by
        rw [sp_PlanOk_L1, dif_pos (by omega)]
        have e : 0 < i → (wr .i64 ((i : Int) - 1)).toNat = i - 1 := fun h => pred_nat h (by omega)
        simp only [seenB]
        constructor
        · intro hb
          rw [if_pos]
          simp only [l6In_f]
          rcases hb with hb | ⟨h0, hb⟩
          · omega
          · rw [e h0]; omega
        · intro hb
          rw [if_neg]
          intro hc
          simp only [l6In_f] at hc
          apply hb
          rcases hc with hc | ⟨h0, hc⟩
          · left; omega
          · right; rw [e (by omega)] at hc; exact ⟨by omega, by omega⟩)
      (fun i hi => by rw [sp_PlanOk_L1, dif_neg (by omega)]) 0
    have hT := spOk_iff p.Table
    have hTf : sp_TableOk p.Table = false ↔ ¬OkT p.Table := by rw [← hT]; simp
    simp only [sp_PlanOk_K1]
    split
    · rename_i hc
      simp only [l6In_f, hTf] at hc
      constructor
      · intro h; cases h
      · rintro ⟨h1, h2, h3, h4, h5⟩; exfalso
        rcases hc with (((hc | hc) | hc) | hc) | hc
        · exact hc h1
        · exact hc h2
        · omega
        · exact hc h4
        · exact hc h5
    · rename_i hc
      simp only [l6In_f, hTf] at hc
      rcases hloop with ⟨e, hall⟩ | ⟨e, k, hk0, hk, hb⟩
      · rw [e]
        simp only [true_iff]
        refine ⟨by omega, ?_, ⟨hl, fun k hk => ?_, fun k h0 hk => ?_⟩, by omega, by omega⟩
        · by_cases h : OkT p.Table
          · exact h
          · exact absurd (.inl (.inl (.inl (.inr h)))) hc
        · have := hall k (Nat.zero_le _) hk
          by_cases h : seenB (p.Seen.getD k default)
          · exact h
          · exact absurd (.inl h) this
        · have := hall k (Nat.zero_le _) hk
          by_cases h : (p.Seen.getD (k - 1) default).Session < (p.Seen.getD k default).Session
          · exact h
          · exact absurd (.inr ⟨h0, h⟩) this
      · rw [e]
        simp only [Bool.false_eq_true, false_iff]
        rintro ⟨h1, h2, h3, h4, h5⟩
        rcases hb with hb | ⟨h0, hb⟩
        · exact hb (h3.2.1 k hk)
        · exact hb (h3.2.2 k h0 hk)
  · rw [if_pos (by omega)]
    simp only [Bool.false_eq_true, false_iff]
    rintro ⟨_, _, h, _⟩; exact hl h.1
theorem im_in_f {n a b : Int} : im_in n a b = false ↔ ¬(a ≤ n ∧ n ≤ b) := by
  rw [← im_in_iff]; simp
theorem rising_iff (l : List GPlanSeen) (hl : l.length ≤ 4) : im_rising_PlanSeen_f_im_PlanOk_2 l = true ↔ ∀ k, 0 < k → k < l.length → (l.getD (k - 1) default).Session < (l.getD k default).Session := by
  have hloop := loop_all (n := l.length) (fun i => if i = 0 then im_rising_PlanSeen_f_im_PlanOk_2_L1 l 1 else im_rising_PlanSeen_f_im_PlanOk_2_L1 l i) (fun k => 0 < k ∧ ¬(l.getD (k - 1) default).Session < (l.getD k default).Session) false
    (fun i hi => by
      by_cases hz : i = 0
      · subst hz; simp
      · simp only [hz, if_false]
        rw [im_rising_PlanSeen_f_im_PlanOk_2_L1, dif_pos (by omega), pred_nat (by omega) (by omega)]
        simp only [show i + 1 ≠ 0 by omega, if_false]
        constructor
        · rintro ⟨h0, hb⟩; rw [if_pos (by simp only [im_PlanOk_2]; omega)]
        · intro hb; rw [if_neg (by intro hc; simp only [im_PlanOk_2] at hc; exact hb ⟨by omega, by omega⟩)])
    (fun i hi => by
      by_cases hz : i = 0
      · subst hz; simp only [if_true]; rw [im_rising_PlanSeen_f_im_PlanOk_2_L1, dif_neg (by omega)]
      · simp only [hz, if_false]; rw [im_rising_PlanSeen_f_im_PlanOk_2_L1, dif_neg (by omega)]) 0
  simp only [if_true] at hloop
  simp only [im_rising_PlanSeen_f_im_PlanOk_2, im_rising_PlanSeen_f_im_PlanOk_2_K1]
  rcases hloop with ⟨e, hall⟩ | ⟨e, k, _, hk, h0, hb⟩
  · rw [e]
    simp only [true_iff]
    intro k h0 hk
    by_cases h : (l.getD (k - 1) default).Session < (l.getD k default).Session
    · exact h
    · exact absurd ⟨h0, h⟩ (hall k (Nat.zero_le _) hk)
  · rw [e]
    simp only [Bool.false_eq_true, false_iff]
    intro h; exact hb (h k h0 hk)
theorem wrong_iff (x : GPlanSeen) : im_PlanOk_1 x = true ↔ ¬seenB x := by
  simp only [im_PlanOk_1, im_isSession, im_isCall, im_in, seenB, Bool.or_eq_true, Bool.not_eq_true', Bool.and_eq_false_iff, decide_eq_false_iff_not]
  omega
theorem contains_iff (l : List GPlanSeen) : slices_ContainsFunc_PlanSeen_f_im_PlanOk_1 l = false ↔ ∀ k, k < l.length → seenB (l.getD k default) := by
  have hloop := loop_find (n := l.length) (slices_IndexFunc_PlanSeen_f_im_PlanOk_1_L1 l) (fun k => ¬seenB (l.getD k default)) (fun k => (k : Int))
    (fun i hi => by
      rw [slices_IndexFunc_PlanSeen_f_im_PlanOk_1_L1, dif_pos (by omega)]
      simp only [Int.toNat_natCast]
      exact ⟨fun h => by rw [if_pos (wrong_iff _ |>.2 h)], fun h => by rw [if_neg (by rw [wrong_iff]; exact h)]⟩)
    (fun i hi => by rw [slices_IndexFunc_PlanSeen_f_im_PlanOk_1_L1, dif_neg (by omega)]) 0
  unfold slices_ContainsFunc_PlanSeen_f_im_PlanOk_1
  rw [decide_eq_false_iff_not]
  rcases hloop with ⟨e, hall⟩ | ⟨k, _, hk, hb, _, e⟩
  · have hI : slices_IndexFunc_PlanSeen_f_im_PlanOk_1 l = -1 := by simp only [slices_IndexFunc_PlanSeen_f_im_PlanOk_1, slices_IndexFunc_PlanSeen_f_im_PlanOk_1_K1, e]
    rw [hI]
    refine ⟨fun _ k hk => ?_, fun _ => by omega⟩
    by_cases h : seenB (l.getD k default)
    · exact h
    · exact absurd h (hall k (Nat.zero_le _) hk)
  · have hI : slices_IndexFunc_PlanSeen_f_im_PlanOk_1 l = k := by simp only [slices_IndexFunc_PlanSeen_f_im_PlanOk_1, slices_IndexFunc_PlanSeen_f_im_PlanOk_1_K1, e]
    rw [hI]
    refine ⟨fun h => by omega, fun h => absurd (h k hk) hb⟩
theorem imPlanOk_iff (p : GPlan) : im_PlanOk p = true ↔ OkP p := by
  simp only [im_PlanOk, OkP, SeenOk, Bool.and_eq_true, im_in_iff, imOk_iff, decide_eq_true_eq, Bool.not_eq_true', contains_iff]
  by_cases hl : p.Seen.length ≤ 4
  · rw [rising_iff _ hl]
    constructor
    · rintro ⟨⟨⟨⟨a, b⟩, ⟨c, d⟩, e⟩, f⟩, g⟩; exact ⟨a, b, ⟨hl, e, d⟩, f, g⟩
    · rintro ⟨a, b, ⟨_, e, d⟩, f, g⟩; exact ⟨⟨⟨⟨a, b⟩, ⟨by omega, d⟩, e⟩, f⟩, g⟩
  · constructor
    · rintro ⟨⟨⟨⟨a, b⟩, ⟨c, d⟩, e⟩, f⟩, g⟩; omega
    · rintro ⟨a, b, ⟨h, e, d⟩, f, g⟩; exact absurd h hl
theorem planOk_eq (p : GPlan) : im_PlanOk p = sp_PlanOk p := by
  rw [Bool.eq_iff_iff, imPlanOk_iff, spPlanOk_iff]
theorem form_eq (c : GCmd) : im_Cmd_inForm c = sp_l3Form c := by
  have e1 : im_Cmd_empty c = true ↔ c.Kind = 0 ∨ c.Kind = 8 := by simp [im_Cmd_empty]
  unfold im_Cmd_inForm sp_l3Form
  simp only []
  by_cases h0 : c.Kind = 0 ∨ c.Kind = 8
  · rw [if_pos (e1.2 h0), if_pos h0]
  · rw [if_neg (by rw [e1]; exact h0), if_neg h0, l2Full_val]
    by_cases h1 : c.Kind = 1
    · have e : sp_l6In c.Kind 1 7 = true := l6In_iff.2 (by omega)
      rw [if_pos h1, if_pos h1]
      simp only [im_isSession, im_isCall, im_in_eq]
      cases h2 : sp_l6In c.Session 0 3 <;> cases h3 : sp_l6In c.Call 1 9999 <;> simp [e, Bool.and_assoc, Bool.and_comm]
      rw [Bool.and_left_comm]
    · rw [if_neg h1, if_neg h1]
      by_cases h4 : im_in c.Kind 2 7 = true
      · have e : sp_l6In c.Kind 1 7 = true := l6In_iff.2 (by have := im_in_iff.1 h4; omega)
        rw [if_pos h4]
        simp only [im_isSession, im_isCall, im_in_eq]
        cases h2 : sp_l6In c.Session 0 3 <;> cases h3 : sp_l6In c.Call 1 9999 <;> simp [e]
      · have e : sp_l6In c.Kind 1 7 = false := l6In_f.2 (by rw [im_in_iff] at h4; omega)
        rw [if_neg h4]
        simp [e]
/-! ### The last call of a session -/
def seenL (l : List GPlanSeen) (s : Int) : Option GPlanSeen := l.find? fun x => x.Session == s
theorem find_drop {l : List GPlanSeen} {s : Int} {k : Nat} (hk : k < l.length) (h : (l.getD k default).Session = s) (hb : ∀ j, j < k → ¬(l.getD j default).Session = s) : seenL l s = some (l.getD k default) := by
  rw [seenL, List.find?_eq_some_iff_getElem]
  have e : l.getD k default = l[k] := by simp [List.getD_eq_getElem?_getD, hk]
  refine ⟨by simpa using h, k, hk, e.symm, fun j hj => ?_⟩
  have := hb j hj
  have e2 : l.getD j default = l[j] := by simp [List.getD_eq_getElem?_getD, show j < l.length by omega]
  rw [e2] at this
  simpa using this
theorem find_none {l : List GPlanSeen} {s : Int} (hb : ∀ j, 0 ≤ j → j < l.length → ¬(l.getD j default).Session = s) : seenL l s = none := by
  rw [seenL, List.find?_eq_none]
  intro x hx
  obtain ⟨j, hj, rfl⟩ := List.getElem_of_mem hx
  have := hb j (Nat.zero_le _) hj
  have e2 : l.getD j default = l[j] := by simp [List.getD_eq_getElem?_getD, hj]
  rw [e2] at this
  simpa using this
theorem spSeen_eq (p : GPlan) (s : Int) : sp_l3Seen p s = (seenL p.Seen s).getD ⟨0, 0, 0⟩ := by
  have hloop := loop_find (n := p.Seen.length) (sp_l3Seen_L1 p s) (fun k => (p.Seen.getD k default).Session = s) (fun k => p.Seen.getD k default)
    (fun i hi => by
      rw [sp_l3Seen_L1, dif_pos (by omega)]
      exact ⟨fun h => by rw [if_pos h], fun h => by rw [if_neg h]⟩)
    (fun i hi => by rw [sp_l3Seen_L1, dif_neg (by omega)]) 0
  simp only [sp_l3Seen, sp_l3Seen_K1]
  rcases hloop with ⟨e, hall⟩ | ⟨k, _, hk, hb, hj, e⟩
  · rw [e, find_none hall]; rfl
  · rw [e, find_drop hk hb (fun j h => hj j (Nat.zero_le _) h)]; rfl
theorem imSeen_eq (p : GPlan) (s : Int) : im_Plan_seen p s = match seenL p.Seen s with | some x => (x, true) | none => (⟨0, 0, 0⟩, false) := by
  have hloop := loop_find (n := p.Seen.length) (im_Plan_seen_L1 p s) (fun k => (p.Seen.getD k default).Session = s) (fun k => (p.Seen.getD k default, true))
    (fun i hi => by
      rw [im_Plan_seen_L1, dif_pos (by omega)]
      exact ⟨fun h => by rw [if_pos h], fun h => by rw [if_neg h]⟩)
    (fun i hi => by rw [im_Plan_seen_L1, dif_neg (by omega)]) 0
  simp only [im_Plan_seen, im_Plan_seen_K1]
  rcases hloop with ⟨e, hall⟩ | ⟨k, _, hk, hb, hj, e⟩
  · rw [e, find_none hall]
  · rw [e, find_drop hk hb (fun j h => hj j (Nat.zero_le _) h)]
theorem seenL_ok {l : List GPlanSeen} {s : Int} {x : GPlanSeen} (hl : SeenOk l) (h : seenL l s = some x) : seenB x ∧ x.Session = s := by
  have h1 := List.find?_some h
  have h2 := List.mem_of_find?_eq_some h
  obtain ⟨j, hj, rfl⟩ := List.getElem_of_mem h2
  have := hl.2.1 j hj
  have e2 : l.getD j default = l[j] := by simp [List.getD_eq_getElem?_getD, hj]
  rw [e2] at this
  exact ⟨this, by simpa using h1⟩
theorem past_eq {p : GPlan} (s n : Int) (hp : OkP p) : im_Plan_past p s n = sp_PlanPast p s n := by
  simp only [im_Plan_past, sp_PlanPast, (spPlanOk_iff p).2 hp, imSeen_eq, spSeen_eq]
  cases h : seenL p.Seen s with
  | none => simp
  | some x =>
    have := (seenL_ok hp.2.2.1 h).1.2.1
    simp only [Option.getD_some, Bool.true_and]
    by_cases h1 : x.Call ≥ n <;> simp [h1] <;> omega
theorem planPast_eq (p : GPlan) (s n : Int) : (im_PlanOk p && im_Plan_past p s n) = sp_PlanPast p s n := by
  by_cases hp : OkP p
  · rw [(imPlanOk_iff p).2 hp, Bool.true_and, past_eq s n hp]
  · have h1 : im_PlanOk p = false := by rw [← Bool.not_eq_true, imPlanOk_iff]; exact hp
    have h2 : sp_PlanOk p = false := by rw [← planOk_eq]; exact h1
    rw [h1, sp_PlanPast, h2]; rfl
end Go.Proofs.YtlojldccjmkikaaGreat
end
section
/-! Plain facts on plans: the calls' list, and what a command does. -/
namespace Go.Proofs.YtlojldccjmkikaaGreat
open Go.Ae
def Srt (l : List GPlanSeen) : Prop := l.Pairwise fun a b => a.Session < b.Session
theorem getD_get {l : List GPlanSeen} {j : Nat} (h : j < l.length) : l.getD j default = l[j] := by simp [List.getD_eq_getElem?_getD, h]
theorem SeenOk.srt {l : List GPlanSeen} (h : SeenOk l) : Srt l := by
  have key : ∀ (d i j : Nat) (hj : j < l.length), i + d + 1 = j → (l.getD i default).Session < (l.getD j default).Session := by
    intro d
    induction d with
    | zero => intro i j hj e; have := h.2.2 j (by omega) hj; rwa [show j - 1 = i by omega] at this
    | succ d ih =>
      intro i j hj e
      have h1 := ih i (j - 1) (by omega) (by omega)
      have h2 := h.2.2 j (by omega) hj
      omega
  rw [Srt, List.pairwise_iff_getElem]
  intro i j hi hj hij
  have := key (j - i - 1) i j hj (by omega)
  rwa [getD_get hi, getD_get hj] at this
theorem SeenOk.all {l : List GPlanSeen} (h : SeenOk l) : ∀ x ∈ l, seenB x := by
  intro x hx
  obtain ⟨j, hj, rfl⟩ := List.getElem_of_mem hx
  have := h.2.1 j hj
  rwa [getD_get hj] at this
theorem SeenOk.of {l : List GPlanSeen} (h1 : l.length ≤ 4) (h2 : ∀ x ∈ l, seenB x) (h3 : Srt l) : SeenOk l := by
  refine ⟨h1, fun k hk => ?_, fun k h0 hk => ?_⟩
  · rw [getD_get hk]; exact h2 _ (List.getElem_mem hk)
  · rw [getD_get hk, getD_get (show k - 1 < l.length by omega)]
    exact (List.pairwise_iff_getElem.1 h3) (k - 1) k (by omega) hk (by omega)
def ltS (t : Int) (l : List GPlanSeen) : List GPlanSeen := l.filter fun x => decide (x.Session < t)
def eqS (t : Int) (l : List GPlanSeen) : List GPlanSeen := l.filter fun x => decide (x.Session = t)
def gtS (t : Int) (l : List GPlanSeen) : List GPlanSeen := l.filter fun x => decide (t < x.Session)
theorem ltS_succ (t : Int) : ∀ {l : List GPlanSeen}, Srt l → ltS (t + 1) l = ltS t l ++ eqS t l
  | [], _ => rfl
  | a :: r, h => by
    have h1 := List.pairwise_cons.1 h
    have ih := ltS_succ t h1.2
    simp only [ltS, eqS] at ih ⊢
    rcases Int.lt_trichotomy a.Session t with c | c | c
    · rw [List.filter_cons_of_pos (by simp; omega), List.filter_cons_of_pos (by simp; omega), List.filter_cons_of_neg (by simp; omega), ih]; rfl
    · have e1 : r.filter (fun x => decide (x.Session < t + 1)) = [] := by rw [List.filter_eq_nil_iff]; intro x hx; have := h1.1 x hx; simp; omega
      have e2 : r.filter (fun x => decide (x.Session < t)) = [] := by rw [List.filter_eq_nil_iff]; intro x hx; have := h1.1 x hx; simp; omega
      have e3 : r.filter (fun x => decide (x.Session = t)) = [] := by rw [List.filter_eq_nil_iff]; intro x hx; have := h1.1 x hx; simp; omega
      rw [List.filter_cons_of_pos (by simp; omega), List.filter_cons_of_neg (by simp; omega), List.filter_cons_of_pos (by simp; omega), e1, e2, e3]; rfl
    · have e1 : r.filter (fun x => decide (x.Session < t + 1)) = [] := by rw [List.filter_eq_nil_iff]; intro x hx; have := h1.1 x hx; simp; omega
      have e2 : r.filter (fun x => decide (x.Session < t)) = [] := by rw [List.filter_eq_nil_iff]; intro x hx; have := h1.1 x hx; simp; omega
      have e3 : r.filter (fun x => decide (x.Session = t)) = [] := by rw [List.filter_eq_nil_iff]; intro x hx; have := h1.1 x hx; simp; omega
      rw [List.filter_cons_of_neg (by simp; omega), List.filter_cons_of_neg (by simp; omega), List.filter_cons_of_neg (by simp; omega), e1, e2, e3]; rfl
theorem gtS_succ (t : Int) : ∀ {l : List GPlanSeen}, Srt l → gtS t l = eqS (t + 1) l ++ gtS (t + 1) l
  | [], _ => rfl
  | a :: r, h => by
    have h1 := List.pairwise_cons.1 h
    have ih := gtS_succ t h1.2
    simp only [gtS, eqS] at ih ⊢
    rcases Int.lt_trichotomy a.Session (t + 1) with c | c | c
    · rw [List.filter_cons_of_neg (by simp; omega), List.filter_cons_of_neg (by simp; omega), List.filter_cons_of_neg (by simp; omega), ih]
    · rw [List.filter_cons_of_pos (by simp; omega), List.filter_cons_of_pos (by simp; omega), List.filter_cons_of_neg (by simp; omega), ih]; rfl
    · have e1 : r.filter (fun x => decide (x.Session = t + 1)) = [] := by rw [List.filter_eq_nil_iff]; intro x hx; have := h1.1 x hx; simp; omega
      rw [List.filter_cons_of_pos (by simp; omega), List.filter_cons_of_neg (by simp; omega), List.filter_cons_of_pos (by simp; omega), ih, e1]; rfl
theorem eqS_find (t : Int) : ∀ {l : List GPlanSeen}, Srt l → eqS t l = match seenL l t with | some x => [x] | none => []
  | [], _ => rfl
  | a :: r, h => by
    have h1 := List.pairwise_cons.1 h
    have ih := eqS_find t h1.2
    simp only [eqS, seenL] at ih ⊢
    by_cases c : a.Session = t
    · have e3 : r.filter (fun x => decide (x.Session = t)) = [] := by rw [List.filter_eq_nil_iff]; intro x hx; have := h1.1 x hx; simp; omega
      rw [List.filter_cons_of_pos (by simpa using c), List.find?_cons_of_pos (by simpa using c), e3]
    · rw [List.filter_cons_of_neg (by simpa using c), List.find?_cons_of_neg (by simpa using c), ih]
/-- A list with a session's call put in its place. -/
def insS (x : GPlanSeen) (l : List GPlanSeen) : List GPlanSeen := ltS x.Session l ++ x :: gtS x.Session l
theorem tell_eq {p : GPlan} {x : GPlanSeen} (hl : SeenOk p.Seen) (h0 : 0 ≤ x.Session) (h1 : x.Session ≤ 3) (hc : 0 < x.Call) : sp_l3Tell p x = { p with Seen := insS x p.Seen } := by
  let e : Int → List GPlanSeen := fun s => if s = x.Session then [x] else eqS s p.Seen
  have step : ∀ (s : Nat) (out : List GPlanSeen), s < 4 → sp_l3Tell_L1 p x out s = sp_l3Tell_L1 p x (out ++ e s) (s + 1) := by
    intro s out hs
    rw [sp_l3Tell_L1, dif_pos (by omega)]
    simp only [spSeen_eq, e]
    by_cases c : (s : Int) = x.Session
    · rw [if_pos c, if_pos c, if_pos (by omega)]
    · rw [if_neg c, if_neg c, eqS_find _ hl.srt]
      cases hh : seenL p.Seen s with
      | none => simp
      | some y =>
        have := (seenL_ok hl hh).1.2.1
        simp only [Option.getD_some]
        rw [if_pos (by omega)]
  have stop : ∀ out, sp_l3Tell_L1 p x out 4 = out := fun out => by rw [sp_l3Tell_L1, dif_neg (by omega)]
  have hA : ltS 0 p.Seen = [] := by rw [ltS, List.filter_eq_nil_iff]; intro y hy; have := (hl.all y hy).1; simp; omega
  have hB : gtS 3 p.Seen = [] := by rw [gtS, List.filter_eq_nil_iff]; intro y hy; have := (hl.all y hy).1; simp; omega
  have l1 := ltS_succ 0 hl.srt; have l2 := ltS_succ 1 hl.srt; have l3 := ltS_succ 2 hl.srt
  have g1 := gtS_succ 0 hl.srt; have g2 := gtS_succ 1 hl.srt; have g3 := gtS_succ 2 hl.srt
  simp only [Int.reduceAdd] at l1 l2 l3 g1 g2 g3
  rw [hA, List.nil_append] at l1; rw [l1] at l2; rw [l2] at l3
  rw [hB, List.append_nil] at g3; rw [g3] at g2; rw [g2] at g1
  simp only [sp_l3Tell, sp_l3Tell_K1]
  rw [step 0 _ (by omega), step 1 _ (by omega), step 2 _ (by omega), step 3 _ (by omega), stop]
  have hx : x.Session = 0 ∨ x.Session = 1 ∨ x.Session = 2 ∨ x.Session = 3 := by omega
  simp only [insS, e]
  rcases hx with hx | hx | hx | hx <;> simp [hx, hA, hB, l1, l2, l3, g1, g2, g3]
/-! ### Searching -/
theorem bs_L (l : List GPlanSeen) (t : Int) (hl : l.length ≤ 1000) (hb : ∀ k, k < l.length → -1000 ≤ (l.getD k default).Session ∧ (l.getD k default).Session ≤ 1000) (ht : -1000 ≤ t ∧ t ≤ 1000) :
    ∀ (m i j : Nat), j - i = m → i ≤ j → j ≤ l.length → (∀ k, k < i → (l.getD k default).Session < t) → (∀ k, j ≤ k → k < l.length → t ≤ (l.getD k default).Session) → (∀ a b, a < b → b < l.length → (l.getD a default).Session < (l.getD b default).Session) →
      ∃ k, k ≤ l.length ∧ slices_BinarySearchFunc_PlanSeen_f_im_Plan_do_1_L1 l t i j = (((k : Nat) : Int), ((k : Nat) : Int)) ∧ (∀ a, a < k → (l.getD a default).Session < t) ∧ (∀ a, k ≤ a → a < l.length → t ≤ (l.getD a default).Session) := by
  intro m
  induction m using Nat.strongRecOn with
  | _ m ih =>
    intro i j hm hij hj hlo hhi hs
    rw [slices_BinarySearchFunc_PlanSeen_f_im_Plan_do_1_L1, dif_pos (by omega)]
    by_cases hlt : i < j
    · rw [dif_pos (by omega)]
      have eh : (wr .i64 ((wr .u64 (wr .i64 ((i : Int) + (j : Int)))).fdiv (2 ^ (min (1 : Int).toNat 64)))) = (((i + j) / 2 : Nat) : Int) := by
        rw [half_eq, wr_id (n := (i : Int) + j) (by omega) (by omega), wr_u64 (by omega) (by omega), wr_id (by omega) (by omega)]; omega
      simp only [eh, Int.toNat_natCast]
      have hbd := hb ((i + j) / 2) (by omega)
      have ew : im_Plan_do_1 (l.getD ((i + j) / 2) default) t = (l.getD ((i + j) / 2) default).Session - t := by
        rw [im_Plan_do_1, wr_id (by omega) (by omega)]
      rw [ew]
      by_cases hc : (l.getD ((i + j) / 2) default).Session - t < 0
      · rw [if_pos hc]
        have e1 : wr .i64 ((((i + j) / 2 : Nat) : Int) + 1) = (((i + j) / 2 + 1 : Nat) : Int) := by rw [wr_id (by omega) (by omega)]; omega
        rw [e1]
        refine ih (j - ((i + j) / 2 + 1)) (by omega) _ _ rfl (by omega) hj (fun k hk => ?_) hhi hs
        rcases Nat.lt_or_ge k ((i + j) / 2) with c | c
        · have := hs k ((i + j) / 2) c (by omega); omega
        · rw [show k = (i + j) / 2 by omega]; omega
      · rw [if_neg hc]
        refine ih ((i + j) / 2 - i) (by omega) _ _ rfl (by omega) (by omega) hlo (fun k h1 h2 => ?_) hs
        rcases Nat.lt_or_ge ((i + j) / 2) k with c | c
        · have := hs ((i + j) / 2) k c h2; omega
        · rw [show k = (i + j) / 2 by omega]; omega
    · rw [dif_neg (by omega)]
      have : j = i := by omega
      subst this
      exact ⟨j, hj, rfl, hlo, hhi⟩
theorem filter_take {l : List GPlanSeen} {t : Int} {k : Nat} (h1 : ∀ a, a < k → a < l.length → (l.getD a default).Session < t) (h2 : ∀ a, k ≤ a → a < l.length → t ≤ (l.getD a default).Session) : ltS t l = l.take k := by
  conv => lhs; rw [← List.take_append_drop k l]
  rw [ltS, List.filter_append]
  have e1 : (l.take k).filter (fun x => decide (x.Session < t)) = l.take k := by
    rw [List.filter_eq_self]
    intro x hx
    obtain ⟨j, hj, rfl⟩ := List.getElem_of_mem hx
    rw [List.length_take] at hj
    have := h1 j (by omega) (by omega)
    rw [getD_get (by omega)] at this
    simpa using this
  have e2 : (l.drop k).filter (fun x => decide (x.Session < t)) = [] := by
    rw [List.filter_eq_nil_iff]
    intro x hx
    obtain ⟨j, hj, rfl⟩ := List.getElem_of_mem hx
    rw [List.length_drop] at hj
    have := h2 (k + j) (by omega) (by omega)
    rw [getD_get (by omega)] at this
    simp; omega
  rw [e1, e2, List.append_nil]
theorem filter_drop {l : List GPlanSeen} {t : Int} {k : Nat} (h1 : ∀ a, a < k → a < l.length → (l.getD a default).Session ≤ t) (h2 : ∀ a, k ≤ a → a < l.length → t < (l.getD a default).Session) : gtS t l = l.drop k := by
  conv => lhs; rw [← List.take_append_drop k l]
  rw [gtS, List.filter_append]
  have e1 : (l.take k).filter (fun x => decide (t < x.Session)) = [] := by
    rw [List.filter_eq_nil_iff]
    intro x hx
    obtain ⟨j, hj, rfl⟩ := List.getElem_of_mem hx
    rw [List.length_take] at hj
    have := h1 j (by omega) (by omega)
    rw [getD_get (by omega)] at this
    simp; omega
  have e2 : (l.drop k).filter (fun x => decide (t < x.Session)) = l.drop k := by
    rw [List.filter_eq_self]
    intro x hx
    obtain ⟨j, hj, rfl⟩ := List.getElem_of_mem hx
    rw [List.length_drop] at hj
    have := h2 (k + j) (by omega) (by omega)
    rw [getD_get (by omega)] at this
    simpa using this
  rw [e1, e2, List.nil_append]
/-- What the program does with the list of calls. -/
def imIns (l : List GPlanSeen) (x : GPlanSeen) : List GPlanSeen :=
  let q := slices_BinarySearchFunc_PlanSeen_f_im_Plan_do_1 l x.Session
  if q.2 = true then l.set q.1.toNat x else slices_Insert_PlanSeen l q.1 [x]
theorem imIns_eq {l : List GPlanSeen} {x : GPlanSeen} (hl : SeenOk l) (h0 : 0 ≤ x.Session) (h1 : x.Session ≤ 3) : imIns l x = insS x l := by
  have hlt : ∀ a b, a < b → b < l.length → (l.getD a default).Session < (l.getD b default).Session := fun a b hab hb => by
    rw [getD_get hb, getD_get (show a < l.length by omega)]
    exact (List.pairwise_iff_getElem.1 hl.srt) a b (by omega) hb hab
  obtain ⟨k, hk, e, hlo, hhi⟩ := bs_L l x.Session (by have := hl.1; omega) (fun k hk => by have := (hl.2.1 k hk).1; omega) (by omega) _ 0 l.length rfl (by omega) (Nat.le_refl _) (fun k h => by omega) (fun k h h' => by omega) hlt
  have e' : slices_BinarySearchFunc_PlanSeen_f_im_Plan_do_1 l x.Session = ((k : Int), decide ((k : Int) < (l.length : Int)) && (im_Plan_do_1 (l.getD k default) x.Session == 0)) := by
    simp only [slices_BinarySearchFunc_PlanSeen_f_im_Plan_do_1, slices_BinarySearchFunc_PlanSeen_f_im_Plan_do_1_K1]
    have e2 := e
    simp only [Int.natCast_zero] at e2
    rw [e2]; simp
  simp only [imIns, e', Int.toNat_natCast]
  by_cases hk1 : k < l.length
  · have hb := (hl.2.1 k hk1).1
    have ew : im_Plan_do_1 (l.getD k default) x.Session = (l.getD k default).Session - x.Session := by rw [im_Plan_do_1, wr_id (by omega) (by omega)]
    rw [ew]
    have hh := hhi k (Nat.le_refl _) hk1
    by_cases hc : (l.getD k default).Session = x.Session
    · rw [if_pos (by rw [Bool.and_eq_true, decide_eq_true_eq, beq_iff_eq]; exact ⟨by omega, by omega⟩)]
      rw [insS, filter_take (k := k) (fun a h _ => hlo a h) hhi, filter_drop (k := k + 1) (fun a h h' => by
        rcases Nat.lt_or_ge a k with c | c
        · have := hlo a c; omega
        · rw [show a = k by omega]; omega) (fun a h h' => by have := hlt k a (by omega) h'; omega)]
      rw [List.set_eq_take_append_cons_drop, if_pos hk1]
    · rw [if_neg (by rw [Bool.and_eq_true, beq_iff_eq]; rintro ⟨_, h⟩; omega)]
      rw [slices_Insert_PlanSeen, insS, filter_take (k := k) (fun a h _ => hlo a h) hhi, filter_drop (k := k) (fun a h h' => by have := hlo a h; omega) (fun a h h' => by
        rcases Nat.lt_or_ge k a with c | c
        · have := hlt k a c h'; omega
        · rw [show a = k by omega]; omega)]
      simp
  · have : k = l.length := by omega
    subst this
    rw [if_neg (by simp)]
    rw [slices_Insert_PlanSeen, insS, filter_take (k := l.length) (fun a h _ => hlo a h) hhi, filter_drop (k := l.length) (fun a h h' => by have := hlo a h; omega) (fun a h h' => by omega)]
    simp
end Go.Proofs.YtlojldccjmkikaaGreat
end
section
/-! The two sides do one thing with a command. -/
namespace Go.Proofs.YtlojldccjmkikaaGreat
open Go.Ae

theorem form_iff (c : GCmd) : sp_l3Form c = true ↔ ((c.Kind = 0 ∨ c.Kind = 8) ∧ c = ⟨c.Kind, 0, 0, 0, 0, ⟨#[]⟩⟩) ∨ ((1 ≤ c.Kind ∧ c.Kind ≤ 7) ∧ (0 ≤ c.Session ∧ c.Session ≤ 3) ∧ (1 ≤ c.Call ∧ c.Call ≤ 9999) ∧
    (c.Kind = 1 → (c.Text.size : Int) ≤ 160 ∧ c.At = 0 ∧ c.To = 0) ∧ (c.Kind ≠ 1 → c.Text = ⟨#[]⟩ ∧ (0 ≤ c.At ∧ c.At ≤ 40) ∧ (0 ≤ c.To ∧ c.To ≤ 31))) := by
  have ht : ∀ b : ByteArray, (b.toList == (⟨#[]⟩ : ByteArray).toList) = true ↔ b = ⟨#[]⟩ := fun b => by
    rw [beq_iff_eq]
    constructor
    · intro h; exact ba_inj h
    · rintro rfl; rfl
  unfold sp_l3Form
  by_cases h0 : c.Kind = 0 ∨ c.Kind = 8
  · rw [if_pos h0]
    simp only [Bool.and_eq_true, beq_iff_eq, ht, Bool.and_true, true_and]
    constructor
    · rintro ⟨a, b, d, e, f⟩; left; refine ⟨h0, ?_⟩
      cases c; simp_all
    · rintro (⟨_, h⟩ | ⟨h, _⟩)
      · rw [h]; simp
      · omega
  · rw [if_neg h0, l2Full_val]
    by_cases h1 : (sp_l6In c.Kind 1 7 = false ∨ sp_l6In c.Session 0 3 = false) ∨ sp_l6In c.Call 1 9999 = false
    · rw [if_pos h1]
      simp only [l6In_f] at h1
      simp only [Bool.false_eq_true, false_iff]
      rintro (⟨h, _⟩ | ⟨h2, h3, h4, _⟩)
      · exact h0 h
      · omega
    · rw [if_neg h1]
      simp only [l6In_f] at h1
      by_cases h2 : c.Kind = 1
      · rw [if_pos h2]
        simp only [Bool.and_eq_true, decide_eq_true_eq, beq_iff_eq]
        constructor
        · rintro ⟨⟨a, b⟩, d⟩; right; exact ⟨by omega, by omega, by omega, fun _ => ⟨a, b, d⟩, fun h => absurd h2 h⟩
        · rintro (⟨h, _⟩ | ⟨_, _, _, h, _⟩)
          · exact absurd h h0
          · have := h h2; exact ⟨⟨this.1, this.2.1⟩, this.2.2⟩
      · rw [if_neg h2]
        simp only [Bool.and_eq_true, l6In_iff, ht]
        constructor
        · rintro ⟨⟨a, b⟩, d⟩; right; exact ⟨by omega, by omega, by omega, fun h => absurd h h2, fun _ => ⟨a, b, d⟩⟩
        · rintro (⟨h, _⟩ | ⟨_, _, _, _, h⟩)
          · exact absurd h h0
          · have := h h2; exact ⟨⟨this.1, this.2.1⟩, this.2.2⟩
/-- What a command does to a plan, but for its place and the calls. -/
def codeOf (p : GPlan) (c : GCmd) : Int × GPlan := im_Plan_code p c
theorem code_eq {p : GPlan} {c : GCmd} (h : sp_l3Form c = true) (hk : 1 ≤ c.Kind ∧ c.Kind ≤ 7) :
    (if c.Kind = 7 then ((sp_l3Group p c.To).1, (sp_l3Group p c.To).2) else if c.Kind ≠ 1 then ((sp_l3Table p c).1, (sp_l3Table p c).2) else (p, -1)) = ((im_Plan_code p c).2, (im_Plan_code p c).1) := by
  have hf := (form_iff c).1 h
  have hto : 0 ≤ c.To := by
    rcases hf with ⟨h1, _⟩ | ⟨_, _, _, h1, h2⟩
    · omega
    · by_cases hc : c.Kind = 1
      · have := (h1 hc).2.2; omega
      · exact (h2 hc).2.2.1
  have hs := split_both p.Table c.At; have hm := merge_both p.Table c.At; have hv := move_both p.Table c.At c.To
  have hj := join_both p.Table c.To; have hl := leave_both p.Table c.To
  have hk7 : c.Kind = 1 ∨ c.Kind = 2 ∨ c.Kind = 3 ∨ c.Kind = 4 ∨ c.Kind = 5 ∨ c.Kind = 6 ∨ c.Kind = 7 := by omega
  unfold im_Plan_code sp_l3Table sp_l3Group im_Plan_group
  rcases hk7 with e | e | e | e | e | e | e <;> simp only [e, hs.1, hm.1, hv.1, hj.1, hl.1] <;> simp
  by_cases h1 : p.New = 0
  · by_cases h2 : c.To = 0
    · simp [h1, h2]
    · simp only [h1, if_false, if_neg (show ¬c.To < 1 by omega), h2]
      by_cases h3 : c.To = p.Old <;> simp [h3]
  · simp [h1]
theorem do_eq (p : GPlan) (c : GCmd) (hp : OkP p) (hat : p.At < 60) : im_Plan_do p c = sp_PlanDo p c := by
  have hok := (spPlanOk_iff p).2 hp
  have hnot : ¬((sp_PlanOk p = false) ∨ p.At ≥ 60) := by rw [hok]; simp; omega
  unfold im_Plan_do sp_PlanDo
  rw [if_neg hnot]
  simp only [imCopied_eq, spCopy_eq]
  have hw : wr .i64 (p.At + 1) = p.At + 1 := wr_id (by have := hp.1; omega) (by omega)
  rw [hw]
  have hform := form_eq c
  have hpast : im_Plan_past p c.Session c.Call = sp_PlanPast p c.Session c.Call := past_eq _ _ hp
  have hpast2 : sp_PlanPast { p with At := p.At + 1 } c.Session c.Call = sp_PlanPast p c.Session c.Call := by
    have h2 : OkP { p with At := p.At + 1 } := ⟨⟨by have := hp.1; show 0 ≤ p.At + 1; omega, by show p.At + 1 ≤ 60; omega⟩, hp.2⟩
    have e1 := (spPlanOk_iff _).2 h2
    unfold sp_PlanPast
    rw [e1, hok]
    rw [spSeen_eq, spSeen_eq]
  by_cases hf : sp_l3Form c = true
  · by_cases h8 : c.Kind = 8
    · rw [if_pos ⟨h8, by rw [hform]; exact hf⟩, if_neg (show ¬((sp_l3Form c = false) ∨ c.Kind = 0) by rw [hf, h8]; simp), if_pos h8]
    · rw [if_neg (by rintro ⟨a, _⟩; exact h8 a)]
      by_cases h0 : c.Kind = 0
      · rw [if_pos (by simp [im_Plan_nothing, im_Cmd_empty, h0]), if_pos (.inr h0)]
      · have hk : 1 ≤ c.Kind ∧ c.Kind ≤ 7 := by
          rcases (form_iff c).1 hf with ⟨h, _⟩ | ⟨h, _⟩
          · omega
          · exact h
        have hs : 0 ≤ c.Session ∧ c.Session ≤ 3 := by
          rcases (form_iff c).1 hf with ⟨h, _⟩ | ⟨_, h, _⟩
          · omega
          · exact h
        have hc : 1 ≤ c.Call := by
          rcases (form_iff c).1 hf with ⟨h, _⟩ | ⟨_, _, h, _⟩
          · omega
          · exact h.1
        have hno : im_Plan_nothing p c = sp_PlanPast p c.Session c.Call := by
          rw [im_Plan_nothing, hform, hf, hpast]
          simp [im_Cmd_empty, h0, h8]
        rw [hno, if_neg (show ¬((sp_l3Form c = false) ∨ c.Kind = 0) by rw [hf]; simp [h0]), if_neg h8, hpast2]
        by_cases hpp : sp_PlanPast p c.Session c.Call = true
        · rw [if_pos hpp, if_pos hpp]
        · rw [if_neg hpp, if_neg hpp]
          have hce := code_eq (p := { p with At := p.At + 1 }) hf hk
          have hcs := code_seen { p with At := p.At + 1 } c
          simp only [] at hce hcs ⊢
          rw [hce]
          rw [tell_eq (by rw [hcs.1]; exact hp.2.2.1) hs.1 hs.2 (by show 0 < c.Call; omega)]
          have hi := imIns_eq (x := ⟨c.Session, c.Call, (im_Plan_code { p with At := p.At + 1 } c).1⟩) hp.2.2.1 hs.1 hs.2
          rw [hcs.1]
          rw [← hi]
          simp only [imIns]
          split <;> rfl
  · have hf' : sp_l3Form c = false := by simpa using hf
    rw [if_neg (by rw [hform, hf']; simp), if_pos (by simp [im_Plan_nothing, hform, hf']), if_pos (.inl hf')]
theorem planDo_eq (p : GPlan) (c : GCmd) : im_PlanDo p c = sp_PlanDo p c := by
  unfold im_PlanDo
  rw [planOk_eq]
  by_cases hp : OkP p
  · have hok := (spPlanOk_iff p).2 hp
    by_cases hat : p.At < 60
    · rw [if_neg (by rw [hok]; simp; omega)]
      exact do_eq p c hp hat
    · rw [if_pos (.inr (by have := hp.1; omega))]
      unfold sp_PlanDo
      rw [if_pos (.inr (by omega))]
  · have hok : sp_PlanOk p = false := by rw [← Bool.not_eq_true, spPlanOk_iff]; exact hp
    rw [if_pos (.inl hok)]
    unfold sp_PlanDo
    rw [if_pos (.inl hok)]
end Go.Proofs.YtlojldccjmkikaaGreat
end
