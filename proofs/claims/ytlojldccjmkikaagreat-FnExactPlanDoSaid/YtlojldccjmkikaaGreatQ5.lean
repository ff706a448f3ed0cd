/- Plain facts on the law's words for plans. -/
import Derived.Test.YtlojldccjmkikaaGreatQ4
import Derived.Test.YtlojldccjmkikaaGreatK3
import Derived.Test.YtlojldccjmkikaaGreatP1
set_option linter.unusedVariables false
set_option linter.unusedSimpArgs false
/-! Plain facts on the law's words for plans. -/
namespace Go.Proofs.YtlojldccjmkikaaGreat
open Go.Ae
theorem toTable_eq (a : GTable) : lw_toTable a = a := by
  simp only [lw_toTable, toTableRangeS_eq]
theorem toPlan_eq (a : GPlan) : lw_toPlan a = a := by
  simp only [lw_toPlan, toTable_eq, toPlanSeenS_eq]
theorem toCmd_eq (a : GCmd) : lw_toCmd a = a := by cases a; rfl
theorem eqTable_refl (a : GTable) : lw_eqTable a a = true := by simp [lw_eqTable, eqTableRangeS_refl]
theorem eqPlan_refl (a : GPlan) : lw_eqPlan a a = true := by simp [lw_eqPlan, eqTable_refl, eqPlanSeenS_refl]
theorem sub_bd {n l : Int} (h0 : 0 ≤ l) (h1 : l ≤ 9223372036854775807) (h2 : 0 ≤ n) (h3 : n ≤ 1048576) : wr .i64 (n - l) = n - l := wr_id (by omega) (by omega)
theorem szTableRangeS_bd {a : List GTableRange} {n : Int} (hl : a.length ≤ 9223372036854775807) (h0 : 0 ≤ n) (h1 : n ≤ 1048576) (h : ¬lw_szTableRangeS a n < 0) : (a.length : Int) ≤ 1048576 ∧ 0 ≤ lw_szTableRangeS a n ∧ lw_szTableRangeS a n ≤ 1048576 := by
  have e := sub_bd (n := n) (l := a.length) (by omega) (by omega) h0 h1
  unfold lw_szTableRangeS at h ⊢
  simp only [e] at h ⊢
  split at h
  · omega
  · rename_i hc; rw [if_neg hc]; omega
theorem szPlanSeenS_bd {a : List GPlanSeen} {n : Int} (hl : a.length ≤ 9223372036854775807) (h0 : 0 ≤ n) (h1 : n ≤ 1048576) (h : ¬lw_szPlanSeenS a n < 0) : (a.length : Int) ≤ 1048576 ∧ 0 ≤ lw_szPlanSeenS a n ∧ lw_szPlanSeenS a n ≤ 1048576 := by
  have e := sub_bd (n := n) (l := a.length) (by omega) (by omega) h0 h1
  unfold lw_szPlanSeenS at h ⊢
  simp only [e] at h ⊢
  split at h
  · omega
  · rename_i hc; rw [if_neg hc]; omega
theorem szPlan_bd {a : GPlan} {n : Int} (hl : a.Table.Ranges.length ≤ 9223372036854775807) (hl2 : a.Seen.length ≤ 9223372036854775807) (h0 : 0 ≤ n) (h1 : n ≤ 1048576) (h : ¬lw_szPlan a n < 0) :
    (a.Table.Ranges.length : Int) ≤ 1048576 ∧ (a.Seen.length : Int) ≤ 1048576 ∧ 0 ≤ lw_szPlan a n ∧ lw_szPlan a n ≤ 1048576 := by
  have e : lw_szTable a.Table n = lw_szTableRangeS a.Table.Ranges n ∨ (lw_szTable a.Table n = -1 ∧ lw_szTableRangeS a.Table.Ranges n < 0) := by
    unfold lw_szTable; simp only []
    by_cases hc : lw_szTableRangeS a.Table.Ranges n < 0
    · rw [if_pos hc]; exact .inr ⟨rfl, hc⟩
    · rw [if_neg hc]; exact .inl rfl
  unfold lw_szPlan at h ⊢
  simp only [] at h ⊢
  by_cases c1 : lw_szTable a.Table n < 0
  · rw [if_pos c1] at h; omega
  · rw [if_neg c1] at h ⊢
    have e1 : lw_szTable a.Table n = lw_szTableRangeS a.Table.Ranges n := by rcases e with e | e <;> omega
    rw [e1] at c1 h ⊢
    obtain ⟨g1, g2, g3⟩ := szTableRangeS_bd hl h0 h1 c1
    by_cases c2 : lw_szPlanSeenS a.Seen (lw_szTableRangeS a.Table.Ranges n) < 0
    · rw [if_pos c2] at h; omega
    · rw [if_neg c2]
      obtain ⟨k1, k2, k3⟩ := szPlanSeenS_bd hl2 g2 g3 c2
      exact ⟨g1, k1, k2, k3⟩
theorem szPlan_ge {a : GPlan} (hl : a.Table.Ranges.length ≤ 9223372036854775807) (hl2 : a.Seen.length ≤ 9223372036854775807) (h : 0 ≤ lw_szPlan a 1048576) : a.Table.Ranges.length ≤ 1048576 ∧ a.Seen.length ≤ 1048576 ∧ lw_szPlan a 1048576 ≤ 1048576 := by
  have := szPlan_bd hl hl2 (by omega) (by omega) (show ¬lw_szPlan a 1048576 < 0 by omega)
  omega
theorem markTable_len (a : GTable) (k : Int) : (lw_markTable a k).2.Ranges.length = a.Ranges.length := by simp only [lw_markTable, markTableRangeS_len]
theorem markPlan_lens (a : GPlan) (k : Int) : (lw_markPlan a k).2.Table.Ranges.length = a.Table.Ranges.length ∧ (lw_markPlan a k).2.Seen.length = a.Seen.length := by
  simp only [lw_markPlan, markTable_len, markPlanSeenS_len, and_self]
theorem markTable_held (a : GTable) (k : Int) (h0 : 0 ≤ k) (h1 : k ≤ 4000000) (h2 : a.Ranges.length ≤ 1048576) : lw_heldTable (lw_markTable a k).2 k = (lw_markTable a k).1 ∧ (lw_markTable a k).1 = k + 3 * a.Ranges.length := by
  obtain ⟨e1, e2⟩ := markTableRangeS_held a.Ranges k h0 (by omega)
  have e3 : lw_heldTableRangeS (lw_markTable a k).2.Ranges k = (lw_markTable a k).1 := e1
  have e4 : (lw_markTable a k).1 = k + 3 * a.Ranges.length := e2
  unfold lw_heldTable
  simp only []
  rw [if_neg (by omega)]
  exact ⟨e3, e4⟩
theorem markPlan_held (a : GPlan) (k : Int) (h0 : 0 ≤ k) (h1 : k ≤ 1000) (h2 : a.Table.Ranges.length ≤ 1048576) (h3 : a.Seen.length ≤ 1048576) : lw_heldPlan (lw_markPlan a k).2 k = (lw_markPlan a k).1 ∧ 0 ≤ (lw_markPlan a k).1 := by
  obtain ⟨e1, e2⟩ := markTable_held a.Table k h0 (by omega) h2
  obtain ⟨e3, e4⟩ := markPlanSeenS_held a.Seen (lw_markTable a.Table k).1 (by omega) (by omega)
  have e5 : lw_heldTable (lw_markPlan a k).2.Table k = (lw_markTable a.Table k).1 := e1
  have e6 : lw_heldPlanSeenS (lw_markPlan a k).2.Seen (lw_markTable a.Table k).1 = (lw_markPlan a k).1 := e3
  have e7 : (lw_markPlan a k).1 = (lw_markTable a.Table k).1 + 3 * a.Seen.length := e4
  unfold lw_heldPlan
  simp only []
  rw [if_neg (by omega), e5, if_neg (by omega)]
  exact ⟨e6, by omega⟩
theorem insS_ok {l : List GPlanSeen} {x : GPlanSeen} (hl : SeenOk l) (hx : seenB x) : SeenOk (insS x l) := by
  have hs := hl.srt
  have hsrt : Srt (insS x l) := by
    rw [Srt, insS, List.pairwise_append]
    refine ⟨List.Pairwise.filter _ hs, List.pairwise_cons.2 ⟨fun y hy => ?_, List.Pairwise.filter _ hs⟩, fun y hy z hz => ?_⟩
    · simpa [gtS] using (List.mem_filter.1 hy).2
    · have h1 : y.Session < x.Session := by simpa [ltS] using (List.mem_filter.1 hy).2
      rcases List.mem_cons.1 hz with rfl | hz
      · exact h1
      · have h2 : x.Session < z.Session := by simpa [gtS] using (List.mem_filter.1 hz).2
        omega
  have hall : ∀ y ∈ insS x l, seenB y := by
    intro y hy
    rcases List.mem_append.1 hy with h | h
    · exact hl.all y (List.mem_filter.1 h).1
    · rcases List.mem_cons.1 h with rfl | h
      · exact hx
      · exact hl.all y (List.mem_filter.1 h).1
  have hlen : ∀ (r : List GPlanSeen) (lo : Nat), lo ≤ 4 → Srt r → (∀ y ∈ r, (lo : Int) ≤ y.Session ∧ y.Session ≤ 3) → r.length ≤ 4 - lo := by
    intro r
    induction r with
    | nil => intro lo _ _ _; simp
    | cons b r ih =>
      intro lo h4 h1 h2
      have h3 := List.pairwise_cons.1 h1
      have h5 := h2 b (by simp)
      have := ih (lo + 1) (by omega) h3.2 (fun y hy => ⟨by have := h3.1 y hy; omega, (h2 y (by simp [hy])).2⟩)
      simp only [List.length_cons]
      omega
  exact SeenOk.of (hlen _ 0 (by omega) hsrt (fun y hy => (hall y hy).1)) hall hsrt
theorem may_bd (t : GTable) : 0 ≤ sp_l2May t ∧ sp_l2May t ≤ 10 := by
  unfold sp_l2May; repeat' split
  all_goals omega
theorem tabCode_bd (t : GTable) (a b : Int) : (-1 ≤ (sp_TableSplit t a).2 ∧ (sp_TableSplit t a).2 ≤ 10) ∧ (-1 ≤ (sp_TableMerge t a).2 ∧ (sp_TableMerge t a).2 ≤ 10) ∧ (-1 ≤ (sp_TableMove t a b).2 ∧ (sp_TableMove t a b).2 ≤ 10) ∧
    (-1 ≤ (sp_TableJoin t b).2 ∧ (sp_TableJoin t b).2 ≤ 10) ∧ (-1 ≤ (sp_TableLeave t b).2 ∧ (sp_TableLeave t b).2 ≤ 10) := by
  have hm := may_bd t
  have hl : ∀ i, sp_TableLeave_L1 t b i = .go () ∨ sp_TableLeave_L1 t b i = .ret (t, 8) := fun i => by
    rw [leave_L t b _ i rfl]
    split
    · exact .inr rfl
    · exact .inl rfl
  refine ⟨?_, ?_, ?_, ?_, ?_⟩
  · unfold sp_TableSplit; simp only []; repeat' split
    all_goals first | omega | (simp only [sp_TableSplit_K1]; omega)
  · unfold sp_TableMerge; simp only []; repeat' split
    all_goals omega
  · unfold sp_TableMove; simp only []; repeat' split
    all_goals omega
  · unfold sp_TableJoin; simp only []; repeat' split
    all_goals omega
  · unfold sp_TableLeave; simp only []; repeat' split
    all_goals first | omega | (simp only [sp_TableLeave_K1]; rcases hl 0 with e | e <;> rw [e] <;> simp only [] <;> omega)
theorem planOk_len {p : GPlan} (h : sp_PlanOk p = true) : p.Table.Ranges.length ≤ 8 ∧ p.Seen.length ≤ 4 := by
  have := (spPlanOk_iff p).1 h
  exact ⟨this.2.1.2.2.1.2, this.2.2.1.1⟩
theorem planDo_ok (p : GPlan) (c : GCmd) (h : OkP p) (hat : p.At < 60) : OkP (sp_PlanDo p c) := by
  rw [← do_eq p c h hat]
  have hok := h
  obtain ⟨h1, h2, h3, h4, h5⟩ := h
  have hw : wr .i64 (p.At + 1) = p.At + 1 := wr_id (by omega) (by omega)
  unfold im_Plan_do
  simp only [imCopied_eq, hw]
  by_cases g1 : (c.Kind = 8) ∧ ((im_Cmd_inForm c) = true)
  · rw [if_pos g1]
    by_cases hn : p.New = 0
    · rw [if_neg (by simp [hn])]; exact ⟨⟨by show 0 ≤ p.At + 1; omega, by show p.At + 1 ≤ 60; omega⟩, h2, h3, h4, h5⟩
    · rw [if_pos (by simp [hn])]; exact ⟨⟨by show 0 ≤ p.At + 1; omega, by show p.At + 1 ≤ 60; omega⟩, h2, h3, ⟨by show 1 ≤ p.New; omega, by show p.New ≤ 31; omega⟩, by show (0:Int) ≤ 0 ∧ (0:Int) ≤ 31; omega⟩
  · rw [if_neg g1]
    by_cases g2 : im_Plan_nothing p c = true
    · rw [if_pos g2]; exact ⟨⟨by show 0 ≤ p.At + 1; omega, by show p.At + 1 ≤ 60; omega⟩, h2, h3, h4, h5⟩
    · rw [if_neg g2]
      simp only [im_Plan_nothing, Bool.or_eq_true, Bool.not_eq_true', not_or] at g2
      obtain ⟨⟨g3, g4⟩, g5⟩ := g2
      have hf : sp_l3Form c = true := by rw [← form_eq]; simpa using g4
      have hk : (1 ≤ c.Kind ∧ c.Kind ≤ 7) ∧ (0 ≤ c.Session ∧ c.Session ≤ 3) ∧ (1 ≤ c.Call ∧ c.Call ≤ 9999) ∧ (0 ≤ c.To ∧ c.To ≤ 31) := by
        rcases (form_iff c).1 hf with ⟨h, _⟩ | ⟨a1, a2, a3, a4, a5⟩
        · simp [im_Cmd_empty] at g3; omega
        · refine ⟨a1, a2, a3, ?_⟩
          by_cases hc : c.Kind = 1
          · have := (a4 hc).2.2; omega
          · exact (a5 hc).2.2
      have hcode : OkT (im_Plan_code { p with At := p.At + 1 } c).2.Table ∧ (1 ≤ (im_Plan_code { p with At := p.At + 1 } c).2.Old ∧ (im_Plan_code { p with At := p.At + 1 } c).2.Old ≤ 31) ∧ (0 ≤ (im_Plan_code { p with At := p.At + 1 } c).2.New ∧ (im_Plan_code { p with At := p.At + 1 } c).2.New ≤ 31) ∧ (-1 ≤ (im_Plan_code { p with At := p.At + 1 } c).1 ∧ (im_Plan_code { p with At := p.At + 1 } c).1 ≤ 10) := by
        have hs := split_both p.Table c.At; have hm := merge_both p.Table c.At; have hv := move_both p.Table c.At c.To
        have hj := join_both p.Table c.To; have hl := leave_both p.Table c.To
        have hcs := tabCode_bd p.Table c.At c.To
        have hk7 : c.Kind = 1 ∨ c.Kind = 2 ∨ c.Kind = 3 ∨ c.Kind = 4 ∨ c.Kind = 5 ∨ c.Kind = 6 ∨ c.Kind = 7 := by omega
        unfold im_Plan_code im_Plan_group
        rcases hk7 with e | e | e | e | e | e | e <;> simp only [e, Int.reduceEq, if_false, if_true, hs.1, hm.1, hv.1, hj.1, hl.1]
        · exact ⟨h2, h4, h5, by omega, by omega⟩
        · exact ⟨hs.2.ok h2, h4, h5, hcs.1⟩
        · exact ⟨hm.2.ok h2, h4, h5, hcs.2.1⟩
        · exact ⟨hv.2.ok h2, h4, h5, hcs.2.2.1⟩
        · exact ⟨hj.2.ok h2, h4, h5, hcs.2.2.2.1⟩
        · exact ⟨hl.2.ok h2, h4, h5, hcs.2.2.2.2⟩
        · by_cases n0 : p.New = 0
          · rw [if_neg (by simp [n0])]
            by_cases n1 : c.To = 0
            · rw [if_pos n1]; exact ⟨h2, h4, h5, by simp, by simp⟩
            · rw [if_neg n1]
              by_cases n2 : c.To = p.Old
              · rw [if_pos n2]; exact ⟨h2, h4, h5, by simp, by simp⟩
              · rw [if_neg n2]; exact ⟨h2, h4, ⟨by show 0 ≤ c.To; omega, by show c.To ≤ 31; omega⟩, by simp, by simp⟩
          · rw [if_pos (by simp [n0])]; exact ⟨h2, h4, h5, by simp, by simp⟩
      have hcs := code_seen { p with At := p.At + 1 } c
      simp only [] at hcs
      have hi := imIns_eq (x := ⟨c.Session, c.Call, (im_Plan_code { p with At := p.At + 1 } c).1⟩) h3 hk.2.1.1 hk.2.1.2
      have hin : SeenOk (insS ⟨c.Session, c.Call, (im_Plan_code { p with At := p.At + 1 } c).1⟩ p.Seen) := insS_ok h3 ⟨hk.2.1, hk.2.2.1, hcode.2.2.2⟩
      rw [← hi] at hin
      simp only [imIns] at hin
      rw [hcs.1]
      split
      · rename_i hb
        rw [if_pos hb] at hin
        exact ⟨⟨by rw [hcs.2]; omega, by rw [hcs.2]; omega⟩, hcode.1, hin, hcode.2.1, hcode.2.2.1⟩
      · rename_i hb
        rw [if_neg hb] at hin
        exact ⟨⟨by rw [hcs.2]; omega, by rw [hcs.2]; omega⟩, hcode.1, hin, hcode.2.1, hcode.2.2.1⟩
theorem planDo_len (p : GPlan) (c : GCmd) : (sp_PlanDo p c).Table.Ranges.length ≤ 8 ∧ (sp_PlanDo p c).Seen.length ≤ 4 := by
  by_cases h : OkP p ∧ p.At < 60
  · have := planDo_ok p c h.1 h.2
    exact ⟨this.2.1.2.2.1.2, this.2.2.1.1⟩
  · have : sp_PlanDo p c = ⟨0, default, [], 0, 0⟩ := by
      unfold sp_PlanDo
      rw [if_pos]
      by_cases h1 : OkP p
      · right; have : ¬p.At < 60 := fun h2 => h ⟨h1, h2⟩; omega
      · left; rw [← Bool.not_eq_true, spPlanOk_iff]; exact h1
    rw [this]
    exact ⟨by decide, by simp⟩
theorem heldMix (p : GPlan) (c : GCmd) : lw_heldPlan ⟨(sp_PlanDo p c).At, ⟨(sp_PlanDo p c).Table.Epoch, (sp_PlanDo p c).Table.Members, (lw_markPlan (sp_PlanDo p c) 1).2.Table.Ranges⟩, (lw_markPlan (sp_PlanDo p c) 1).2.Seen, (sp_PlanDo p c).Old, (sp_PlanDo p c).New⟩ 1 = (lw_markPlan (sp_PlanDo p c) 1).1 ∧
    0 ≤ (lw_markPlan (sp_PlanDo p c) 1).1 := by
  have hl := planDo_len p c
  exact markPlan_held (sp_PlanDo p c) 1 (by omega) (by omega) (by omega) (by omega)
end Go.Proofs.YtlojldccjmkikaaGreat
