/- The contract of the drawing of a table, a key and a node. -/
import Derived.Test.YtlojldccjmkikaaE1
set_option linter.unusedVariables false
set_option linter.unusedSimpArgs false
section
namespace Go.Proofs.Ytlojldccjmkikaa
open Go.Ae
open Go.Ae renaming getR_eq → z1, getR_ne → z2, getR_nil → z3, lF_mk → z4, cont1 → z5, cont2a → z6, cont2b → z7, cont3a → z8, cont3b → z9, cont3c → z10, wr_up → z11, wr_dn → z12
open Go.Ae.VSub renaming any' → z13, same → z14, nilRd → z15, mtRd → z16, lit → z17, ptr' → z18, slD → z19, slNil → z20, agg' → z21, tup' → z22, fn' → z23, rpSame → z24, rpF → z25, frz → z26, frzC → z27
open Go.Ae.LSub renaming nil' → z28, cons' → z29, mkR' → z30
open Go.Ae.SSub renaming nil' → z31, cons' → z32
open Go.Ae.HTell renaming nil' → z33, some' → z34, freshRows → z35
open Go.Ae.BSub renaming cells' → z36, own → z37
open Go.Ae.RowsAre renaming map → z38, nil → z39, app → z40, spl → z41, take → z42, drop → z43, cons → z44
open Go.Ae.CallA renaming frameq → z45
set_option linter.unusedSimpArgs false
set_option linter.unusedVariables false
attribute [local irreducible] wr bitsOf VSub LSub SSub HTell BSub RowIs RowsAre Ent lF mkR
def sp_DrawTableMove (code : List UInt8) : GTable × Int × Int :=
  let r := (sp_l6Open code)
  let c1 := sp_l72TableAny r
  let r := c1.2
  let c2 := sp_l6Rd_pick r 42
  let r := c2.2
  let c3 := sp_l6Rd_pick r 7
  let r := c3.2
  (c1.1, (wr .i64 (c2.1 - 1)), (wr .i64 (c3.1 - 1)))
def Ssp_DrawTableMove_c : Prop := ∀ (code : List UInt8) (hp0 : code.length ≤ 2147483648), Gives Try.prog 13 [.r (.rd 1 encU8 code)] (.tup [.agg [.lit (.int .i64 (sp_DrawTableMove code).1.Epoch), .lit (.int .i64 (sp_DrawTableMove code).1.Members), .r (.rd 3 encGTableRange (sp_DrawTableMove code).1.Ranges)], .lit (.int .i64 (sp_DrawTableMove code).2.1), .lit (.int .i64 (sp_DrawTableMove code).2.2)])
set_option maxRecDepth 10000 in
set_option maxHeartbeats 2000000 in
theorem layF11 : (Ssp_DrawTableMove_c) := by
  refine fun code hp0 => have t0 := tg 0; Does.goR Try.func13 Try.ntmps13 Try.results13 rfl (Nat.zero_le _) rfl ?_
  all_goals (
  simp only [argR, Nat.reduceAdd]
  repeat' (first
    | (refine Tri.regSeq fun K hK => RegS.run ?_)
    | (refine Tri.reg fun K hK => RegS.run ?_)
    | (refine RegS.nil (hK _ _ ?_); clear hK K)
    | (refine QuietS.nil (hK _ _ ?_); clear hK K)
    | ((first | refine RegS.step fun K1 h1 => ?_ | refine QuietS.step fun K1 h1 => ?_); simp only [go_sem, reduceCtorEq, Nat.reduceAdd, Nat.reduceSub, Nat.reduceMul, Nat.reduceLeDiff, Nat.reduceLT, Nat.reduceEqDiff])
    | (with_reducible refine GInt_ex _ ?_)
    | (with_reducible refine GTableRange_ex _ _ _ ?_)
    | (refine h1 _ _ ?_; clear h1 K1)
    | refine And.intro ?_ ?_
    | ((first
      | (refine z45 [] [] 0 (sp_l6Open_c ?_ ?_) (by simp) ?_ ?_ ?_ rfl rfl ?_ ?_; rotate_left 5)
      | (refine z45 [?_] [] 1 (sp_l72TableAny_c ⟨?_, ?_⟩ ?_ ?_ ?_) (by simp) ?_ ?_ ?_ rfl rfl ?_ ?_; rotate_left 9)
      | (refine z45 [?_] [] 1 (sp_l6Rd_pick_c ⟨?_, ?_⟩ ?_ ?_ ?_ ?_) (by simp) ?_ ?_ ?_ rfl rfl ?_ ?_; rotate_left 10)
      ); (focus ((repeat' (first | simp only [z1, z2, z3, Nat.reduceEqDiff, Nat.reduceLT, not_false_eq_true] | exact z28 | refine z29 ?_ ?_ | exact z31 | refine z32 ?_ ?_ | refine z30 ?_ | exact z33 | refine z34 rfl ?_ ?_ | refine z35 ?_ | exact z13 | exact z14 | exact z15 | exact z16 | refine z17 ?_ | refine z18 rfl ?_ | refine z19 rfl ?_ ?_ | (show lτ _ _ = some _; exact rfl) | exact z20 rfl rfl | refine z20 rfl ?_ | refine z21 ?_ | refine z23 ?_ | exact z24 | refine z25 ?_ rfl rfl ?_ | refine z22 ?_ | refine z26 ?_ rfl rfl ?_ ?_ | refine z27 ?_ rfl rfl ?_ ?_ ?_ | exact True.intro | exact z4 rfl | exact z5 | exact z6 | exact z7 | exact z8 | exact z9 | exact z10 | refine z36 ?_ | refine z37 rfl ?_ | exact z38 | exact z39 | refine z40 (xs := ?_) (ys := ?_) ?_ ?_ | refine z41 (xs := ?_) (ys := ?_) ?_ ?_ ?_ ?_ | refine z42 (xs := ?_) ?_ | refine z43 (xs := ?_) ?_ | refine z44 (x := ?_) (xs := ?_) ?_ ?_ | (with_reducible show RowIs _ _ _; first | exact GTable_row _ | exact GTable_mk _ _ _ | exact GTableRange_row _ | exact GTableRange_mk _ _ _ | exact Gl6Rd_row _ | exact Gl6Rd_mk _ _) | with_reducible exact rfl | (refine z11 ?_; omega) | (refine z12 ?_; omega) | simp only [List.length_append, List.length_map, List.length_cons, List.length_nil])); (all_goals (fail_if_success (with_reducible show FZ _ _))); (all_goals (fail_if_success (with_reducible show False))); (all_goals (fail_if_success (with_reducible show VSub _ _ _ _ _ _))))); rotate_right 1; (focus ((repeat' (first | simp only [z1, z2, z3, Nat.reduceEqDiff, Nat.reduceLT, not_false_eq_true] | exact z28 | refine z29 ?_ ?_ | exact z31 | refine z32 ?_ ?_ | refine z30 ?_ | exact z33 | refine z34 rfl ?_ ?_ | refine z35 ?_ | exact z13 | exact z14 | exact z15 | exact z16 | refine z17 ?_ | refine z18 rfl ?_ | refine z19 rfl ?_ ?_ | (show lτ _ _ = some _; exact rfl) | exact z20 rfl rfl | refine z20 rfl ?_ | refine z21 ?_ | refine z23 ?_ | exact z24 | refine z25 ?_ rfl rfl ?_ | refine z22 ?_ | refine z26 ?_ rfl rfl ?_ ?_ | refine z27 ?_ rfl rfl ?_ ?_ ?_ | exact True.intro | exact z4 rfl | exact z5 | exact z6 | exact z7 | exact z8 | exact z9 | exact z10 | refine z36 ?_ | refine z37 rfl ?_ | exact z38 | exact z39 | refine z40 (xs := ?_) (ys := ?_) ?_ ?_ | refine z41 (xs := ?_) (ys := ?_) ?_ ?_ ?_ ?_ | refine z42 (xs := ?_) ?_ | refine z43 (xs := ?_) ?_ | refine z44 (x := ?_) (xs := ?_) ?_ ?_ | (with_reducible show RowIs _ _ _; first | exact GTable_row _ | exact GTable_mk _ _ _ | exact GTableRange_row _ | exact GTableRange_mk _ _ _ | exact Gl6Rd_row _ | exact Gl6Rd_mk _ _) | with_reducible exact rfl | (refine z11 ?_; omega) | (refine z12 ?_; omega) | simp only [List.length_append, List.length_map, List.length_cons, List.length_nil])); (all_goals (fail_if_success (with_reducible show FZ _ _))); (all_goals (fail_if_success (with_reducible show False))); (all_goals (fail_if_success (with_reducible show VSub _ _ _ _ _ _))); (all_goals (fail_if_success (with_reducible show HTell _ _ _ _ _ _))))); (all_goals (try (with_reducible refine BoolIs.mk ?_); exact rfl)); (all_goals (try (with_reducible refine LenEq.mk ?_); try with_reducible exact rfl)); any_goals (rintro _ _ ⟨rfl, rfl⟩ _; simp only [go_sem, reduceCtorEq, Nat.reduceAdd, Nat.reduceSub, Nat.reduceMul, Nat.reduceLeDiff, Nat.reduceLT, Nat.reduceEqDiff]))
    | ((refine z45 [] [?_] 0 (sp_l6Open_c ?_ ?_) (by simp) ?_ ?_ ?_ rfl rfl ?_ ?_; rotate_left 6); (focus ((repeat' (first | simp only [z1, z2, z3, Nat.reduceEqDiff, Nat.reduceLT, not_false_eq_true] | exact z28 | refine z29 ?_ ?_ | exact z31 | refine z32 ?_ ?_ | refine z30 ?_ | exact z33 | refine z34 rfl ?_ ?_ | refine z35 ?_ | exact z13 | exact z14 | exact z15 | exact z16 | refine z17 ?_ | refine z18 rfl ?_ | refine z19 rfl ?_ ?_ | (show lτ _ _ = some _; exact rfl) | exact z20 rfl rfl | refine z20 rfl ?_ | refine z21 ?_ | refine z23 ?_ | exact z24 | refine z25 ?_ rfl rfl ?_ | refine z22 ?_ | refine z26 ?_ rfl rfl ?_ ?_ | refine z27 ?_ rfl rfl ?_ ?_ ?_ | exact True.intro | exact z4 rfl | exact z5 | exact z6 | exact z7 | exact z8 | exact z9 | exact z10 | refine z36 ?_ | refine z37 rfl ?_ | exact z38 | exact z39 | refine z40 (xs := ?_) (ys := ?_) ?_ ?_ | refine z41 (xs := ?_) (ys := ?_) ?_ ?_ ?_ ?_ | refine z42 (xs := ?_) ?_ | refine z43 (xs := ?_) ?_ | refine z44 (x := ?_) (xs := ?_) ?_ ?_ | (with_reducible show RowIs _ _ _; first | exact GTable_row _ | exact GTable_mk _ _ _ | exact GTableRange_row _ | exact GTableRange_mk _ _ _ | exact Gl6Rd_row _ | exact Gl6Rd_mk _ _) | with_reducible exact rfl | (refine z11 ?_; omega) | (refine z12 ?_; omega) | simp only [List.length_append, List.length_map, List.length_cons, List.length_nil])); (all_goals (fail_if_success (with_reducible show FZ _ _))); (all_goals (fail_if_success (with_reducible show False))); (all_goals (fail_if_success (with_reducible show VSub _ _ _ _ _ _))))); rotate_right 1; (focus ((repeat' (first | simp only [z1, z2, z3, Nat.reduceEqDiff, Nat.reduceLT, not_false_eq_true] | exact z28 | refine z29 ?_ ?_ | exact z31 | refine z32 ?_ ?_ | refine z30 ?_ | exact z33 | refine z34 rfl ?_ ?_ | refine z35 ?_ | exact z13 | exact z14 | exact z15 | exact z16 | refine z17 ?_ | refine z18 rfl ?_ | refine z19 rfl ?_ ?_ | (show lτ _ _ = some _; exact rfl) | exact z20 rfl rfl | refine z20 rfl ?_ | refine z21 ?_ | refine z23 ?_ | exact z24 | refine z25 ?_ rfl rfl ?_ | refine z22 ?_ | refine z26 ?_ rfl rfl ?_ ?_ | refine z27 ?_ rfl rfl ?_ ?_ ?_ | exact True.intro | exact z4 rfl | exact z5 | exact z6 | exact z7 | exact z8 | exact z9 | exact z10 | refine z36 ?_ | refine z37 rfl ?_ | exact z38 | exact z39 | refine z40 (xs := ?_) (ys := ?_) ?_ ?_ | refine z41 (xs := ?_) (ys := ?_) ?_ ?_ ?_ ?_ | refine z42 (xs := ?_) ?_ | refine z43 (xs := ?_) ?_ | refine z44 (x := ?_) (xs := ?_) ?_ ?_ | (with_reducible show RowIs _ _ _; first | exact GTable_row _ | exact GTable_mk _ _ _ | exact GTableRange_row _ | exact GTableRange_mk _ _ _ | exact Gl6Rd_row _ | exact Gl6Rd_mk _ _) | with_reducible exact rfl | (refine z11 ?_; omega) | (refine z12 ?_; omega) | simp only [List.length_append, List.length_map, List.length_cons, List.length_nil])); (all_goals (fail_if_success (with_reducible show FZ _ _))); (all_goals (fail_if_success (with_reducible show False))); (all_goals (fail_if_success (with_reducible show VSub _ _ _ _ _ _))); (all_goals (fail_if_success (with_reducible show HTell _ _ _ _ _ _))))); (all_goals (try (with_reducible refine BoolIs.mk ?_); exact rfl)); (all_goals (try (with_reducible refine LenEq.mk ?_); try with_reducible exact rfl)); any_goals (rintro _ _ ⟨rfl, rfl⟩ _; simp only [go_sem, reduceCtorEq, Nat.reduceAdd, Nat.reduceSub, Nat.reduceMul, Nat.reduceLeDiff, Nat.reduceLT, Nat.reduceEqDiff]))
    | omega
    | (refine Tri.cond (b := ?_) ?_ ?_ ?_; rotate_left 1; focus (simp only [ev, z1, z2, Nat.reduceEqDiff, Nat.reduceLT, not_false_eq_true]; exact rfl))
    | (intro h; (try simp only [decide_eq_true_eq, decide_eq_false_iff_not, Int.not_lt, Int.not_le, beq_iff_eq, bne_iff_ne, beq_eq_false_iff_ne, bne_eq_false_iff_eq, ne_eq, Bool.not_eq_true', Bool.not_eq_false', Decidable.not_not] at h); (try contradiction))
    | (refine Tri.skip ?_; try change Tri _ _ _ _ _ _)
    | (refine Tri.exit ?_; try change Tri _ _ _ _ _ _)
    | refine Tri.ret ?_
    | refine Tri.block ?_
    | refine Tri.seq ?_
    | ((guard_hyp t0; refine EndK.eqv (vs := ?_) (f := fun x : GTable × Int × Int => .tup [.agg [.lit (.int .i64 x.1.Epoch), .lit (.int .i64 x.1.Members), .r (.rd 3 encGTableRange x.1.Ranges)], .lit (.int .i64 x.2.1), .lit (.int .i64 x.2.2)]) (⟨?_, ?_, ?_⟩, ?_, ?_) (by first | exact .inr rfl | exact .inl rfl) ?_ ?_ ?_; rotate_left 6); (focus (simp only [go_sem, reduceCtorEq, Nat.reduceAdd, Nat.reduceSub, Nat.reduceMul, Nat.reduceLeDiff, Nat.reduceLT, Nat.reduceEqDiff]; exact rfl)); (focus (repeat' (first | simp only [z1, z2, z3, Nat.reduceEqDiff, Nat.reduceLT, not_false_eq_true] | exact z28 | refine z29 ?_ ?_ | exact z31 | refine z32 ?_ ?_ | refine z30 ?_ | exact z33 | refine z34 rfl ?_ ?_ | refine z35 ?_ | exact z13 | exact z14 | exact z15 | exact z16 | refine z17 ?_ | refine z18 rfl ?_ | refine VSub.sl' rfl ?_ ?_ | (show lτ _ _ = some _; exact rfl) | exact z20 rfl rfl | refine z20 rfl ?_ | refine z21 ?_ | refine z23 ?_ | exact z24 | refine z25 ?_ rfl rfl ?_ | refine z22 ?_ | refine z26 ?_ rfl rfl ?_ ?_ | refine z27 ?_ rfl rfl ?_ ?_ ?_ | exact True.intro | exact z4 rfl | exact z5 | exact z6 | exact z7 | exact z8 | exact z9 | exact z10 | refine z36 ?_ | refine z37 rfl ?_ | exact z38 | exact z39 | refine z40 (xs := ?_) (ys := ?_) ?_ ?_ | refine z41 (xs := ?_) (ys := ?_) ?_ ?_ ?_ ?_ | refine z42 (xs := ?_) ?_ | refine z43 (xs := ?_) ?_ | refine z44 (x := ?_) (xs := ?_) ?_ ?_ | (with_reducible show RowIs _ _ _; first | exact GTable_row _ | exact GTable_mk _ _ _ | exact GTableRange_row _ | exact GTableRange_mk _ _ _ | exact Gl6Rd_row _ | exact Gl6Rd_mk _ _) | with_reducible exact rfl | (refine z11 ?_; omega) | (refine z12 ?_; omega) | simp only [List.length_append, List.length_map, List.length_cons, List.length_nil])))))
  all_goals (try clear h1); all_goals (try clear K1); all_goals (try clear hK); all_goals (try clear K); all_goals (try dsimp only); all_goals (try simp only [Bool.not_eq_false', Bool.not_eq_true', decide_eq_true_eq, decide_eq_false_iff_not] at *); all_goals (try simp only [GTable_eta, GTableRange_eta, Gl6Rd_eta] at *)
  all_goals first
    | omega
    | (guard_hyp t0; first | ((have ho := open_p code; have hb := open_b code; have hf := l72TableAny_ok (r := sp_l6Open code) (by omega) (by omega); omega)) | ((have ho := open_p code; have hb := open_b code; have hf := l72TableAny_ok (r := sp_l6Open code) (by omega) (by omega); simp (disch := omega) only [pick_p, pick_b, hf.2.2.1, wr_id]; omega)))
    | (simp only [List.length_set, List.length_append, List.length_cons, List.length_nil, List.length_map, List.length_take, List.length_drop]; omega)
    | (obtain ⟨x, _, rfl⟩ := List.mem_map.1 (by assumption); rfl)
    | (obtain ⟨x, _, rfl⟩ := List.mem_map.1 (List.mem_of_mem_take (by assumption)); rfl)
    | (obtain ⟨x, _, rfl⟩ := List.mem_map.1 (List.mem_of_mem_drop (List.mem_of_mem_take (by assumption))); rfl)
    | (simp (disch := omega) only [wr_id]; omega)
    | (guard_hyp t0; first | (rw [sp_DrawTableMove]; all_goals first | grind | (repeat' split) <;> first | rfl | grind))
    | grind)
theorem sp_DrawTableMove_c : Ssp_DrawTableMove_c := layF11
end Go.Proofs.Ytlojldccjmkikaa
end
section
/-! Lengths of what the changes of a table hand back. -/
namespace Go.Proofs.Ytlojldccjmkikaa
open Go.Ae
theorem Good.len {t : GTable} {x : GTable × Int} (h : Good t x) (ht : t.Ranges.length ≤ 8) : x.1.Ranges.length ≤ 8 := by
  by_cases hok : OkT t
  · by_cases h1 : x.2 = 0
    · exact (h.2.2 h1).1.2.2.1.2
    · rw [h.2.1 hok h1]; exact ht
  · rw [h.1 hok]; simp
theorem len_split {t : GTable} (a : Int) (h : t.Ranges.length ≤ 8) : (sp_TableSplit t a).1.Ranges.length ≤ 8 ∧ (im_TableSplit t a).1.Ranges.length ≤ 8 := by
  have h1 := (split_both t a).2.len h
  rw [(split_both t a).1]; exact ⟨h1, h1⟩
theorem len_merge {t : GTable} (a : Int) (h : t.Ranges.length ≤ 8) : (sp_TableMerge t a).1.Ranges.length ≤ 8 ∧ (im_TableMerge t a).1.Ranges.length ≤ 8 := by
  have h1 := (merge_both t a).2.len h
  rw [(merge_both t a).1]; exact ⟨h1, h1⟩
theorem len_move {t : GTable} (a b : Int) (h : t.Ranges.length ≤ 8) : (sp_TableMove t a b).1.Ranges.length ≤ 8 ∧ (im_TableMove t a b).1.Ranges.length ≤ 8 := by
  have h1 := (move_both t a b).2.len h
  rw [(move_both t a b).1]; exact ⟨h1, h1⟩
theorem len_join {t : GTable} (a : Int) (h : t.Ranges.length ≤ 8) : (sp_TableJoin t a).1.Ranges.length ≤ 8 ∧ (im_TableJoin t a).1.Ranges.length ≤ 8 := by
  have h1 := (join_both t a).2.len h
  rw [(join_both t a).1]; exact ⟨h1, h1⟩
theorem len_leave {t : GTable} (a : Int) (h : t.Ranges.length ≤ 8) : (sp_TableLeave t a).1.Ranges.length ≤ 8 ∧ (im_TableLeave t a).1.Ranges.length ≤ 8 := by
  have h1 := (leave_both t a).2.len h
  rw [(leave_both t a).1]; exact ⟨h1, h1⟩
theorem draw_len (code : List UInt8) : (sp_DrawTableMove code).1.Ranges.length ≤ 8 := by
  unfold sp_DrawTableMove
  have ho := open_p code
  exact (l72TableAny_ok (r := sp_l6Open code) (by omega) (by omega)).2.2.2
/-! ### The law -/
theorem lcTable_L (a : GTable) : ∀ (m i : Nat), a.Ranges.length - i = m → lw_lcTable_L1 a a i = .go () := by
  intro m
  induction m with
  | zero => intro i h; rw [lw_lcTable_L1, dif_neg (by omega)]
  | succ m ih =>
    intro i h
    rw [lw_lcTable_L1, dif_pos (by omega), if_neg (by simp)]
    exact ih (i + 1) (by omega)
theorem lcTable_refl (a : GTable) : lw_lcTable a a = true := by
  unfold lw_lcTable
  rw [if_neg (by simp)]
  simp only [lw_lcTable_K1, lcTable_L a _ 0 rfl]
/-- What the law looks at. -/
def Facts (t : GTable) (x p : GTable × Int) : Prop := x = p ∧ lw_lcTable p.1 p.1 = true ∧ (sp_TableOk t = true → p.2 ≠ 0 → lw_lcTable p.1 t = true) ∧ (p.2 = 0 → im_TableOk p.1 = true ∧ p.1.Epoch = wr .i64 (t.Epoch + 1)) ∧ (sp_TableOk t = false → p.2 = 10 ∧ (p.1.Ranges.length : Int) = 0)
theorem facts_of {t : GTable} {x p : GTable × Int} (h : x = p ∧ Good t p) : Facts t x p := by
  obtain ⟨h1, h2, h3, h4⟩ := h
  refine ⟨h1, lcTable_refl _, fun g1 g2 => ?_, fun g => ?_, fun g => ?_⟩
  · rw [h3 ((spOk_iff t).1 g1) g2]; exact lcTable_refl _
  · obtain ⟨k1, k2⟩ := h4 g
    have := k1.1
    exact ⟨(imOk_iff _).2 k1, by rw [k2, wr_id (by omega) (by omega)]⟩
  · have hb : ¬OkT t := fun e => by rw [(spOk_iff t).2 e] at g; cases g
    rw [h2 hb]; exact ⟨rfl, rfl⟩
theorem Facts.no {t : GTable} {x p : GTable × Int} (h : Facts t x p) : ¬((x.2 ≠ p.2) ∨ ((lw_lcTable x.1 p.1) = false)) ∧
    ¬(((((sp_TableOk t = true) ∧ (x.2 ≠ 0)) ∧ ((lw_lcTable x.1 t) = false)) ∨ ((x.2 = 0) ∧ (((im_TableOk x.1) = false) ∨ (x.1.Epoch ≠ (wr .i64 (t.Epoch + 1)))))) ∨ ((sp_TableOk t = false) ∧ ((x.2 ≠ 10) ∨ ((x.1.Ranges.length : Int) > 0)))) := by
  obtain ⟨rfl, h1, h2, h3, h4⟩ := h
  refine ⟨by simp [h1], ?_⟩
  rintro ((⟨⟨g1, g2⟩, g3⟩ | ⟨g1, g2⟩) | ⟨g1, g2⟩)
  · rw [h2 g1 g2] at g3; cases g3
  · obtain ⟨k1, k2⟩ := h3 g1
    rcases g2 with g2 | g2
    · rw [k1] at g2; cases g2
    · exact g2 k2
  · obtain ⟨k1, k2⟩ := h4 g1
    rcases g2 with g2 | g2
    · exact g2 k1
    · omega
theorem facts_split (t : GTable) (a : Int) : Facts t (im_TableSplit t a) (sp_TableSplit t a) := facts_of (split_both t a)
theorem facts_merge (t : GTable) (a : Int) : Facts t (im_TableMerge t a) (sp_TableMerge t a) := facts_of (merge_both t a)
theorem facts_move (t : GTable) (a b : Int) : Facts t (im_TableMove t a b) (sp_TableMove t a b) := facts_of (move_both t a b)
theorem facts_join (t : GTable) (a : Int) : Facts t (im_TableJoin t a) (sp_TableJoin t a) := facts_of (join_both t a)
theorem facts_leave (t : GTable) (a : Int) : Facts t (im_TableLeave t a) (sp_TableLeave t a) := facts_of (leave_both t a)
end Go.Proofs.Ytlojldccjmkikaa
end
