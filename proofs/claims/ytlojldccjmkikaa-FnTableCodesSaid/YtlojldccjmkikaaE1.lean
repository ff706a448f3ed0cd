/- The contract of the drawing of a table, some spoilt. -/
import Derived.Test.YtlojldccjmkikaaD1
import Derived.Test.YtlojldccjmkikaaA4
set_option linter.unusedVariables false
set_option linter.unusedSimpArgs false
section
namespace Go.Proofs.Ytlojldccjmkikaa
open Go.Ae
open Go.Ae renaming getR_eq → z1, getR_ne → z2, getR_nil → z3, lF_mk → z4, cont1 → z5, cont2a → z6, cont2b → z7, cont3a → z8, cont3b → z9, cont3c → z10, wr_up → z11, wr_dn → z12
open Go.Ae.VSub renaming any' → z13, same → z14, nilRd → z15, mtRd → z16, lit → z17, ptr' → z18, slD → z19, slNil → z20, agg' → z21, tup' → z22, fn' → z23, rpSame → z24, rpF → z25, frz → z26, frzC → z27, frzO → z28
open Go.Ae.LSub renaming nil' → z29, cons' → z30, mkR' → z31
open Go.Ae.SSub renaming nil' → z32, cons' → z33
open Go.Ae.HTell renaming nil' → z34, some' → z35, freshRows → z36
open Go.Ae.BSub renaming cells' → z37, own → z38
open Go.Ae.RowsAre renaming map → z39, nil → z40, app → z41, spl → z42, take → z43, drop → z44, cons → z45
set_option linter.unusedSimpArgs false
set_option linter.unusedVariables false
attribute [local irreducible] wr bitsOf VSub LSub SSub HTell BSub RowIs RowsAre Ent lF mkR
def sp_l72TableAny (r : Gl6Rd) : GTable × Gl6Rd :=
  let c1 := sp_l72Table r
  let r := c1.2
  let t := c1.1
  let c2 := sp_l6Rd_pick r 14
  let r := c2.2
  let sw3 := c2.1
  let q := if (sw3 = 0) then
      let c3 := sp_l6Rd_pick r 3
      let r := c3.2
      let t := { t with Epoch := (([0, 9999, 10000] : List Int).getD c3.1.toNat default) }
      (r, t)
    else if (sw3 = 1) then
      let c4 := sp_l6Rd_pick r 3
      let r := c4.2
      let t := { t with Members := (([0, 32, 1] : List Int).getD c4.1.toNat default) }
      (r, t)
    else if (sw3 = 2) then
      let c5 := sp_l6Rd_pick r (t.Ranges.length : Int)
      let r := c5.2
      let at1 := c5.1
      let c6 := sp_l6Rd_pick r 42
      let r := c6.2
      let t := { t with Ranges := t.Ranges.set at1.toNat ({ (t.Ranges.getD at1.toNat default) with Hi := c6.1 }) }
      (r, t)
    else if (sw3 = 3) then
      let t := { t with Ranges := (t.Ranges.drop 1) }
      (r, t)
    else if (sw3 = 4) then
      let c7 := sp_l6Rd_pick r 2
      let r := c7.2
      let t := { t with Ranges := t.Ranges.set 0 ({ (t.Ranges.getD 0 default) with Node := (([(-1), 5] : List Int).getD c7.1.toNat default) }) }
      (r, t)
    else 
      (r, t)
  let r := q.1
  let t := q.2
  (t, r)
def Ssp_l72TableAny_c : Prop := ∀ (r : Gl6Rd) (hp0 : r.b.length ≤ 2147483648) (hp1 : 0 ≤ r.p) (hp2 : r.p ≤ 100000), Does Try.prog 51 1 [.ptr 0 2 0 0] [some (.cells [.r (.rd 1 encU8 r.b), .lit (.int .i64 r.p)])] (fun vv H2 => vv = .agg [.lit (.int .i64 (sp_l72TableAny r).1.Epoch), .lit (.int .i64 (sp_l72TableAny r).1.Members), .r (.rd 3 encGTableRange (sp_l72TableAny r).1.Ranges)] ∧ H2 = [some (.cells [.r (.rd 1 encU8 (sp_l72TableAny r).2.b), .lit (.int .i64 (sp_l72TableAny r).2.p)])])
set_option maxRecDepth 10000 in
set_option maxHeartbeats 20000000 in
theorem layE11 : (Ssp_l72TableAny_c) := by
  refine fun r hp0 hp1 hp2 => have t0 := tg 0; Does.goR Try.func51 Try.ntmps51 Try.results51 rfl (by simp) rfl ?_
  all_goals (
  simp only [argR, Nat.reduceAdd]
  repeat' (first
    | (refine Tri.regSeq fun K hK => RegS.run ?_)
    | (refine Tri.reg fun K hK => RegS.run ?_)
    | (guard_hyp t0; (first | (refine Tri.heavySeqN 8 rfl mixedP [3] [11] [(0, 0), (2, 0), (3, 0), (7, 0), (1, 1), (4, 1), (5, 0), (6, 2), (8, 2), (9, 0), (10, 0), (11, 2)] (by kernel_rfl) fun K hK => ?_; simp only [ballOf, ballX, cellIds, Heap.at, List.getD_cons_zero, List.getD_cons_succ, List.nil_append, List.cons_append, idOf, z1, z2, Nat.reduceEqDiff, Nat.reduceLT, not_false_eq_true]) | (refine Tri.heavyN 8 rfl mixedP [3] [11] [(0, 0), (2, 0), (3, 0), (7, 0), (1, 1), (4, 1), (5, 0), (6, 2), (8, 2), (9, 0), (10, 0), (11, 2)] (by kernel_rfl) fun K hK => ?_; simp only [ballOf, ballX, cellIds, Heap.at, List.getD_cons_zero, List.getD_cons_succ, List.nil_append, List.cons_append, idOf, z1, z2, Nat.reduceEqDiff, Nat.reduceLT, not_false_eq_true]) | (refine Tri.heavySeqF 12 rfl mixedP [3] [9] [(0, 0), (3, 0), (1, 1)] 2 [(4, 2), (5, 0), (6, 2), (7, 0), (8, 0), (9, 2)] 4 [(2, 2), (5, 0), (6, 2), (7, 0), (8, 0), (9, 2)] (by kernel_rfl) fun K hK => ?_; simp only [ballX, cellIds, Heap.at, List.getD_cons_zero, List.getD_cons_succ, List.nil_append, List.cons_append, idOf, z1, z2, Nat.reduceEqDiff, Nat.reduceLT, not_false_eq_true]) | (refine Tri.heavyF 12 rfl mixedP [3] [9] [(0, 0), (3, 0), (1, 1)] 2 [(4, 2), (5, 0), (6, 2), (7, 0), (8, 0), (9, 2)] 4 [(2, 2), (5, 0), (6, 2), (7, 0), (8, 0), (9, 2)] (by kernel_rfl) fun K hK => ?_; simp only [ballX, cellIds, Heap.at, List.getD_cons_zero, List.getD_cons_succ, List.nil_append, List.cons_append, idOf, z1, z2, Nat.reduceEqDiff, Nat.reduceLT, not_false_eq_true]) ))
    | (refine RegS.nil (hK _ _ ?_); clear hK K)
    | (refine QuietS.nil (hK _ _ ?_); clear hK K)
    | ((first | refine RegS.step fun K1 h1 => ?_ | refine QuietS.step fun K1 h1 => ?_); simp only [go_sem, reduceCtorEq, Nat.reduceAdd, Nat.reduceSub, Nat.reduceMul, Nat.reduceLeDiff, Nat.reduceLT, Nat.reduceEqDiff])
    | (refine DrawS.nil (And.intro ?_ ?_))
    | (refine (DrawS.step fun K1 h1 => ?_).run; simp only [go_sem, reduceCtorEq, Nat.reduceAdd, Nat.reduceSub, Nat.reduceMul, Nat.reduceLeDiff, Nat.reduceLT, Nat.reduceEqDiff])
    | (refine DrawS.nil (hK _ _ ?_); clear hK K)
    | (refine DrawS.step fun K1 h1 => ?_; simp only [go_sem, reduceCtorEq, Nat.reduceAdd, Nat.reduceSub, Nat.reduceMul, Nat.reduceLeDiff, Nat.reduceLT, Nat.reduceEqDiff])
    | (with_reducible refine GInt_ex _ ?_)
    | (with_reducible refine GTableRange_ex _ _ _ ?_)
    | (refine h1 _ _ ?_; clear h1 K1)
    | refine And.intro ?_ ?_
    | ((first
      | (refine CallA.frameq [?_] [] 1 (sp_l6Rd_pick_c ⟨?_, ?_⟩ ?_ ?_ ?_ ?_) (by simp) ?_ ?_ ?_ rfl rfl ?_ ?_; rotate_left 10)
      | (refine CallA.frameq [?_] [] 1 (sp_l72Table_c ⟨?_, ?_⟩ ?_ ?_ ?_) (by simp) ?_ ?_ ?_ rfl rfl ?_ ?_; rotate_left 9)
      ); (focus ((repeat' (first | simp only [z1, z2, z3, Nat.reduceEqDiff, Nat.reduceLT, not_false_eq_true] | exact z29 | refine z30 ?_ ?_ | exact z32 | refine z33 ?_ ?_ | refine z31 ?_ | exact z34 | refine z35 rfl ?_ ?_ | refine z36 ?_ | exact z13 | exact z14 | exact z15 | exact z16 | refine z17 ?_ | refine z18 rfl ?_ | refine z19 rfl ?_ ?_ | (show lτ _ _ = some _; exact rfl) | exact z20 rfl rfl | refine z20 rfl ?_ | refine z21 ?_ | refine z23 ?_ | exact z24 | refine z25 ?_ rfl rfl ?_ | refine z22 ?_ | refine z26 ?_ rfl rfl ?_ ?_ | refine z28 ?_ rfl rfl ?_ ?_ | refine z27 ?_ rfl rfl ?_ ?_ ?_ | exact True.intro | exact z4 rfl | exact z5 | exact z6 | exact z7 | exact z8 | exact z9 | exact z10 | refine z37 ?_ | refine z38 rfl ?_ | exact z39 | exact z40 | refine z41 (xs := ?_) (ys := ?_) ?_ ?_ | refine z42 (xs := ?_) (ys := ?_) ?_ ?_ ?_ ?_ | refine z43 (xs := ?_) ?_ | refine z44 (xs := ?_) ?_ | refine z45 (x := ?_) (xs := ?_) ?_ ?_ | (with_reducible show RowIs _ _ _; first | exact GTable_row _ | exact GTable_mk _ _ _ | exact GTableRange_row _ | exact GTableRange_mk _ _ _ | exact Gl6Rd_row _ | exact Gl6Rd_mk _ _) | with_reducible exact rfl | (refine z11 ?_; omega) | (refine z12 ?_; omega) | simp only [List.length_append, List.length_map, List.length_cons, List.length_nil])); (all_goals (fail_if_success (with_reducible show FZ _ _))); (all_goals (fail_if_success (with_reducible show False))); (all_goals (fail_if_success (with_reducible show VSub _ _ _ _ _ _))))); rotate_right 1; (focus ((repeat' (first | simp only [z1, z2, z3, Nat.reduceEqDiff, Nat.reduceLT, not_false_eq_true] | exact z29 | refine z30 ?_ ?_ | exact z32 | refine z33 ?_ ?_ | refine z31 ?_ | exact z34 | refine z35 rfl ?_ ?_ | refine z36 ?_ | exact z13 | exact z14 | exact z15 | exact z16 | refine z17 ?_ | refine z18 rfl ?_ | refine z19 rfl ?_ ?_ | (show lτ _ _ = some _; exact rfl) | exact z20 rfl rfl | refine z20 rfl ?_ | refine z21 ?_ | refine z23 ?_ | exact z24 | refine z25 ?_ rfl rfl ?_ | refine z22 ?_ | refine z26 ?_ rfl rfl ?_ ?_ | refine z28 ?_ rfl rfl ?_ ?_ | refine z27 ?_ rfl rfl ?_ ?_ ?_ | exact True.intro | exact z4 rfl | exact z5 | exact z6 | exact z7 | exact z8 | exact z9 | exact z10 | refine z37 ?_ | refine z38 rfl ?_ | exact z39 | exact z40 | refine z41 (xs := ?_) (ys := ?_) ?_ ?_ | refine z42 (xs := ?_) (ys := ?_) ?_ ?_ ?_ ?_ | refine z43 (xs := ?_) ?_ | refine z44 (xs := ?_) ?_ | refine z45 (x := ?_) (xs := ?_) ?_ ?_ | (with_reducible show RowIs _ _ _; first | exact GTable_row _ | exact GTable_mk _ _ _ | exact GTableRange_row _ | exact GTableRange_mk _ _ _ | exact Gl6Rd_row _ | exact Gl6Rd_mk _ _) | with_reducible exact rfl | (refine z11 ?_; omega) | (refine z12 ?_; omega) | simp only [List.length_append, List.length_map, List.length_cons, List.length_nil])); (all_goals (fail_if_success (with_reducible show FZ _ _))); (all_goals (fail_if_success (with_reducible show False))); (all_goals (fail_if_success (with_reducible show VSub _ _ _ _ _ _))); (all_goals (fail_if_success (with_reducible show HTell _ _ _ _ _ _))))); (all_goals (try (with_reducible refine BoolIs.mk ?_); exact rfl)); (all_goals (try (with_reducible refine LenEq.mk ?_); try with_reducible exact rfl)); any_goals (rintro _ _ ⟨rfl, rfl⟩ _; simp only [go_sem, reduceCtorEq, Nat.reduceAdd, Nat.reduceSub, Nat.reduceMul, Nat.reduceLeDiff, Nat.reduceLT, Nat.reduceEqDiff]))
    | omega
    | (guard_hyp t0; (rw [raw3 ?_]; rotate_left 1; (focus (first | (have hf := l72Table_ok (r := r) (by omega) (by omega); have hk := len_okb hf.1; have hb := pick_bd (r := (sp_l6Rd_pick (sp_l72Table r).2 14).2) 3 (by simp (disch := omega) only [pick_p, wr_id]; omega) (by simp (disch := omega) only [pick_p, wr_id]; omega); omega))); simp only [go_sem, reduceCtorEq, Nat.reduceAdd, Nat.reduceSub, Nat.reduceMul, Nat.reduceLeDiff, Nat.reduceLT, Nat.reduceEqDiff]))
    | (guard_hyp t0; (rw [raw2 ?_]; rotate_left 1; (focus (first | (have hf := l72Table_ok (r := r) (by omega) (by omega); have hk := len_okb hf.1; have hb := pick_bd (r := (sp_l6Rd_pick (sp_l72Table r).2 14).2) 2 (by simp (disch := omega) only [pick_p, wr_id]; omega) (by simp (disch := omega) only [pick_p, wr_id]; omega); omega))); simp only [go_sem, reduceCtorEq, Nat.reduceAdd, Nat.reduceSub, Nat.reduceMul, Nat.reduceLeDiff, Nat.reduceLT, Nat.reduceEqDiff]))
    | (refine Tri.cond (b := ?_) ?_ ?_ ?_; rotate_left 1; focus (simp only [ev, z1, z2, Nat.reduceEqDiff, Nat.reduceLT, not_false_eq_true]; exact rfl))
    | (intro h; (try simp only [decide_eq_true_eq, decide_eq_false_iff_not, Int.not_lt, Int.not_le, beq_iff_eq, bne_iff_ne, beq_eq_false_iff_ne, bne_eq_false_iff_eq, ne_eq, Bool.not_eq_true', Bool.not_eq_false', Decidable.not_not] at h); (try contradiction))
    | (refine Tri.skip ?_; try change Tri _ _ _ _ _ _)
    | (refine Tri.exit ?_; try change Tri _ _ _ _ _ _)
    | refine Tri.ret ?_
    | refine Tri.block ?_
    | refine Tri.seq ?_
    | ((guard_hyp t0; refine EndK.eqq (p := 1) (vs := ?_) (f := fun x : GTable × Gl6Rd => .agg [.lit (.int .i64 x.1.Epoch), .lit (.int .i64 x.1.Members), .r (.rd 3 encGTableRange x.1.Ranges)]) (g := fun x : GTable × Gl6Rd => [some (.cells [.r (.rd 1 encU8 x.2.b), .lit (.int .i64 x.2.p)])]) (⟨?_, ?_, ?_⟩, ⟨?_, ?_⟩) [some 0] (by first | exact .inr rfl | exact .inl rfl) ?_ ?_ ?_ (by simp) ?_ ?_ ?_; rotate_left 6); (focus (simp only [go_sem, reduceCtorEq, Nat.reduceAdd, Nat.reduceSub, Nat.reduceMul, Nat.reduceLeDiff, Nat.reduceLT, Nat.reduceEqDiff]; exact rfl)); rotate_left 3; (focus (repeat' (first | simp only [z1, z2, z3, Nat.reduceEqDiff, Nat.reduceLT, not_false_eq_true] | exact z29 | refine z30 ?_ ?_ | exact z32 | refine z33 ?_ ?_ | refine z31 ?_ | exact z34 | refine z35 rfl ?_ ?_ | refine z36 ?_ | exact z13 | exact z14 | exact z15 | exact z16 | refine z17 ?_ | refine z18 rfl ?_ | refine z19 rfl ?_ ?_ | (show lτ _ _ = some _; exact rfl) | exact z20 rfl rfl | refine z20 rfl ?_ | refine z21 ?_ | refine z23 ?_ | exact z24 | refine z25 ?_ rfl rfl ?_ | refine z22 ?_ | refine z26 ?_ rfl rfl ?_ ?_ | refine z28 ?_ rfl rfl ?_ ?_ | refine z27 ?_ rfl rfl ?_ ?_ ?_ | exact True.intro | exact z4 rfl | exact z5 | exact z6 | exact z7 | exact z8 | exact z9 | exact z10 | refine z37 ?_ | refine z38 rfl ?_ | exact z39 | exact z40 | refine z41 (xs := ?_) (ys := ?_) ?_ ?_ | refine z42 (xs := ?_) (ys := ?_) ?_ ?_ ?_ ?_ | refine z43 (xs := ?_) ?_ | refine z44 (xs := ?_) ?_ | refine z45 (x := ?_) (xs := ?_) ?_ ?_ | (with_reducible show RowIs _ _ _; first | exact GTable_row _ | exact GTable_mk _ _ _ | exact GTableRange_row _ | exact GTableRange_mk _ _ _ | exact Gl6Rd_row _ | exact Gl6Rd_mk _ _) | with_reducible exact rfl | (refine z11 ?_; omega) | (refine z12 ?_; omega) | simp only [List.length_append, List.length_map, List.length_cons, List.length_nil]))); rotate_right 1; (focus (repeat' (first | simp only [z1, z2, z3, Nat.reduceEqDiff, Nat.reduceLT, not_false_eq_true] | exact z29 | refine z30 ?_ ?_ | exact z32 | refine z33 ?_ ?_ | refine z31 ?_ | exact z34 | refine z35 rfl ?_ ?_ | refine z36 ?_ | exact z13 | exact z14 | exact z15 | exact z16 | refine z17 ?_ | refine z18 rfl ?_ | refine z19 rfl ?_ ?_ | (show lτ _ _ = some _; exact rfl) | exact z20 rfl rfl | refine z20 rfl ?_ | refine z21 ?_ | refine z23 ?_ | exact z24 | refine z25 ?_ rfl rfl ?_ | refine z22 ?_ | refine z26 ?_ rfl rfl ?_ ?_ | refine z28 ?_ rfl rfl ?_ ?_ | refine z27 ?_ rfl rfl ?_ ?_ ?_ | exact True.intro | exact z4 rfl | exact z5 | exact z6 | exact z7 | exact z8 | exact z9 | exact z10 | refine z37 ?_ | refine z38 rfl ?_ | exact z39 | exact z40 | refine z41 (xs := ?_) (ys := ?_) ?_ ?_ | refine z42 (xs := ?_) (ys := ?_) ?_ ?_ ?_ ?_ | refine z43 (xs := ?_) ?_ | refine z44 (xs := ?_) ?_ | refine z45 (x := ?_) (xs := ?_) ?_ ?_ | (with_reducible show RowIs _ _ _; first | exact GTable_row _ | exact GTable_mk _ _ _ | exact GTableRange_row _ | exact GTableRange_mk _ _ _ | exact Gl6Rd_row _ | exact Gl6Rd_mk _ _) | with_reducible exact rfl | (refine z11 ?_; omega) | (refine z12 ?_; omega) | simp only [List.length_append, List.length_map, List.length_cons, List.length_nil]))); (all_goals (try (with_reducible refine LenEq.mk ?_); try with_reducible exact rfl)); (all_goals (try (with_reducible refine BoolIs.mk ?_); exact rfl))))
  all_goals (try clear h1); all_goals (try clear K1); all_goals (try clear hK); all_goals (try clear K); all_goals (try dsimp only); all_goals (try simp only [Bool.not_eq_false', Bool.not_eq_true', decide_eq_true_eq, decide_eq_false_iff_not] at *); all_goals (try simp only [GTable_eta, GTableRange_eta, Gl6Rd_eta] at *)
  all_goals first
    | omega
    | (guard_hyp t0; first | ((have hf := l72Table_ok (r := r) (by omega) (by omega); omega)) | ((have hf := l72Table_ok (r := r) (by omega) (by omega); simp (disch := omega) only [pick_p, pick_b, hf.2.2.2, wr_id]; omega)) | ((have hf := l72Table_ok (r := r) (by omega) (by omega); have hk := len_okb hf.1; omega)) | ((have hf := l72Table_ok (r := r) (by omega) (by omega); have hk := len_okb hf.1; have hb := pick_bd (r := (sp_l6Rd_pick (sp_l72Table r).2 14).2) 3 (by simp (disch := omega) only [pick_p, wr_id]; omega) (by simp (disch := omega) only [pick_p, wr_id]; omega); omega)) | ((have hf := l72Table_ok (r := r) (by omega) (by omega); have hk := len_okb hf.1; have hb := pick_bd (r := (sp_l6Rd_pick (sp_l72Table r).2 14).2) 2 (by simp (disch := omega) only [pick_p, wr_id]; omega) (by simp (disch := omega) only [pick_p, wr_id]; omega); omega)) | ((have hf := l72Table_ok (r := r) (by omega) (by omega); have hk := len_okb hf.1; have hb := pick_bd (r := (sp_l6Rd_pick (sp_l72Table r).2 14).2) ((sp_l72Table r).1.Ranges.length : Int) (by simp (disch := omega) only [pick_p, wr_id]; omega) (by simp (disch := omega) only [pick_p, wr_id]; omega); omega)) | ((have hf := l72Table_ok (r := r) (by omega) (by omega); have hk := len_okb hf.1; simp only [Blk.L, List.length_map]; omega)))
    | (simp only [List.length_set, List.length_append, List.length_cons, List.length_nil, List.length_map, List.length_take, List.length_drop]; omega)
    | (obtain ⟨x, _, rfl⟩ := List.mem_map.1 (by assumption); rfl)
    | (obtain ⟨x, _, rfl⟩ := List.mem_map.1 (List.mem_of_mem_take (by assumption)); rfl)
    | (obtain ⟨x, _, rfl⟩ := List.mem_map.1 (List.mem_of_mem_drop (List.mem_of_mem_take (by assumption))); rfl)
    | (simp (disch := omega) only [wr_id]; omega)
    | (guard_hyp t0; first | (rw [sp_l72TableAny]; all_goals first | grind | (repeat' split) <;> first | rfl | grind))
    | grind)
theorem sp_l72TableAny_c : Ssp_l72TableAny_c := layE11
end Go.Proofs.Ytlojldccjmkikaa
end
section
/-! Plain facts on drawn tables, some spoilt. -/
namespace Go.Proofs.Ytlojldccjmkikaa
open Go.Ae
theorem l72TableAny_ok {r : Gl6Rd} (h0 : 0 ≤ r.p) (h1 : r.p ≤ 100000) : 0 ≤ (sp_l72TableAny r).2.p ∧ (sp_l72TableAny r).2.p ≤ r.p + 110 ∧ (sp_l72TableAny r).2.b = r.b ∧ (sp_l72TableAny r).1.Ranges.length ≤ 8 := by
  have hf := l72Table_ok h0 (by omega)
  have hk := len_okb hf.1
  have p1 : (sp_l6Rd_pick (sp_l72Table r).2 14).2.p = (sp_l72Table r).2.p + 1 := by rw [pick_p, wr_id (by omega) (by omega)]
  have b1 : (sp_l6Rd_pick (sp_l72Table r).2 14).2.b = r.b := by rw [pick_b]; exact hf.2.2.2
  have p2 : ∀ n, (sp_l6Rd_pick (sp_l6Rd_pick (sp_l72Table r).2 14).2 n).2.p = (sp_l72Table r).2.p + 2 := fun n => by rw [pick_p, p1, wr_id (by omega) (by omega)]; omega
  have b2 : ∀ n, (sp_l6Rd_pick (sp_l6Rd_pick (sp_l72Table r).2 14).2 n).2.b = r.b := fun n => by rw [pick_b, b1]
  have p3 : ∀ n m, (sp_l6Rd_pick (sp_l6Rd_pick (sp_l6Rd_pick (sp_l72Table r).2 14).2 n).2 m).2.p = (sp_l72Table r).2.p + 3 := fun n m => by rw [pick_p, p2, wr_id (by omega) (by omega)]; omega
  have b3 : ∀ n m, (sp_l6Rd_pick (sp_l6Rd_pick (sp_l6Rd_pick (sp_l72Table r).2 14).2 n).2 m).2.b = r.b := fun n m => by rw [pick_b, b2]
  unfold sp_l72TableAny
  simp only []
  split
  · simp only [p2, b2]; refine ⟨by omega, by omega, trivial, by omega⟩
  split
  · simp only [p2, b2]; refine ⟨by omega, by omega, trivial, by omega⟩
  split
  · simp only [p3, b3, List.length_set]; refine ⟨by omega, by omega, trivial, by omega⟩
  split
  · simp only [p1, b1, List.length_drop]; refine ⟨by omega, by omega, trivial, by omega⟩
  split
  · simp only [p2, b2, List.length_set]; refine ⟨by omega, by omega, trivial, by omega⟩
  · simp only [p1, b1]; refine ⟨by omega, by omega, trivial, by omega⟩
theorem open_p (code : List UInt8) : (sp_l6Open code).p = 0 := by unfold sp_l6Open; simp only []
theorem open_b (code : List UInt8) : (sp_l6Open code).b.length ≤ 2000 := by
  unfold sp_l6Open
  show (if ((code.length : Int) > 2000) then code.take 2000 else code).length ≤ 2000
  split
  · rw [List.length_take]; omega
  · omega
end Go.Proofs.Ytlojldccjmkikaa
end
