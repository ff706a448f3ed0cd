/- Contracts of functions of the reference on plans, and lengths, for lists whose lengths are bounded as stated. -/
import Derived.Test.YtlojldccjmkikaaGreatH1
import Derived.Test.YtlojldccjmkikaaGreatP1
set_option linter.unusedVariables false
set_option linter.unusedSimpArgs false
section
namespace Go.Proofs.YtlojldccjmkikaaGreat
open Go.Ae
open Go.Ae renaming getR_eq → z1, getR_ne → z2, getR_nil → z3, lF_mk → z4, cont1 → z5, cont2a → z6, cont2b → z7, cont3a → z8, cont3b → z9, cont3c → z10, wr_up → z11, wr_dn → z12
open Go.Ae.VSub renaming any' → z13, same → z14, nilRd → z15, mtRd → z16, lit → z17, ptr' → z18, slD → z19, slNil → z20, agg' → z21, tup' → z22, fn' → z23, rpSame → z24, rpF → z25, frz → z26, frzC → z27
open Go.Ae.LSub renaming nil' → z28, cons' → z29, mkR' → z30
open Go.Ae.SSub renaming nil' → z31, cons' → z32
open Go.Ae.HTell renaming nil' → z33, some' → z34, freshRows → z35
open Go.Ae.BSub renaming cells' → z36, own → z37
open Go.Ae.RowsAre renaming map → z38, nil → z39, app → z40, spl → z41, take → z42, drop → z43, cons → z44
open Go.Ae.CallA renaming frameq → z45, frameLq → z46
open Go.Ae.LenEq renaming mk → z47
open Go.Ae.BoolIs renaming mk → z48
set_option linter.unusedSimpArgs false
set_option linter.unusedVariables false
attribute [local irreducible] wr bitsOf VSub LSub SSub HTell BSub RowIs RowsAre Ent lF mkR
def sp_l3Table (p : GPlan) (c : GCmd) : GPlan × Int :=
  let t := p.Table
  let code := 0
  let q := if (c.Kind = 2) then
      let q := (sp_TableSplit p.Table c.At)
      let t := q.1
      let code := q.2
      (t, code)
    else if (c.Kind = 3) then
      let q := (sp_TableMerge p.Table c.At)
      let t := q.1
      let code := q.2
      (t, code)
    else if (c.Kind = 4) then
      let q := (sp_TableMove p.Table c.At c.To)
      let t := q.1
      let code := q.2
      (t, code)
    else if (c.Kind = 5) then
      let q := (sp_TableJoin p.Table c.To)
      let t := q.1
      let code := q.2
      (t, code)
    else if (c.Kind = 6) then
      let q := (sp_TableLeave p.Table c.To)
      let t := q.1
      let code := q.2
      (t, code)
    else 
      (t, code)
  let t := q.1
  let code := q.2
  let p := { p with Table := t }
  (p, code)
def Ssp_l3Table_c : Prop := ∀ (p : GPlan) (c : GCmd) (hp0 : p.Table.Ranges.length ≤ 2147483648) (hp1 : p.Seen.length ≤ 2147483648), Gives Tryz.prog 45 [.agg [.lit (.int .i64 p.At), .lit (.int .i64 p.Table.Epoch), .lit (.int .i64 p.Table.Members), .r (.rd 3 encGTableRange p.Table.Ranges), .r (.rd 3 encGPlanSeen p.Seen), .lit (.int .i64 p.Old), .lit (.int .i64 p.New)], .agg [.lit (.int .i64 c.Kind), .lit (.int .i64 c.Session), .lit (.int .i64 c.Call), .lit (.int .i64 c.At), .lit (.int .i64 c.To), .lit (.string c.Text)]] (.tup [.agg [.lit (.int .i64 (sp_l3Table p c).1.At), .lit (.int .i64 (sp_l3Table p c).1.Table.Epoch), .lit (.int .i64 (sp_l3Table p c).1.Table.Members), .r (.rd 3 encGTableRange (sp_l3Table p c).1.Table.Ranges), .r (.rd 3 encGPlanSeen (sp_l3Table p c).1.Seen), .lit (.int .i64 (sp_l3Table p c).1.Old), .lit (.int .i64 (sp_l3Table p c).1.New)], .lit (.int .i64 (sp_l3Table p c).2)])
set_option maxRecDepth 10000 in
set_option maxHeartbeats 2000000 in
theorem layH1c1 : (Ssp_l3Table_c) := by
  refine fun p c hp0 hp1 => have t0 := tg 0; Does.goR Tryz.func45 Tryz.ntmps45 Tryz.results45 rfl (Nat.zero_le _) rfl ?_
  all_goals (
  simp only [argR, Nat.reduceAdd]
  repeat' (first
    | (refine Tri.regSeq fun K hK => RegS.run ?_)
    | (refine Tri.reg fun K hK => RegS.run ?_)
    | (refine RegS.nil (hK _ _ ?_);clear hK K)
    | (refine QuietS.nil (hK _ _ ?_);clear hK K)
    | ((first|refine RegS.step fun K1 h1 => ?_|refine QuietS.step fun K1 h1 => ?_);simp only [go_sem,reduceCtorEq,Nat.reduceAdd,Nat.reduceSub,Nat.reduceMul,Nat.reduceLeDiff,Nat.reduceLT,Nat.reduceEqDiff])
    | (with_reducible refine GTableRange_ex _ _ _ ?_)
    | (with_reducible refine GPlanSeen_ex _ _ _ ?_)
    | (refine h1 _ _ ?_;clear h1 K1)
    | refine And.intro ?_ ?_
    | ((first
      | (refine z45 [] [] 0 (sp_TableSplit_c ⟨?_,?_,?_⟩ ?_ ?_) (by simp) ?_ ?_ ?_ rfl rfl ?_ ?_;rotate_left 8)
      | (refine z45 [] [] 0 (sp_TableMerge_c ⟨?_,?_,?_⟩ ?_ ?_) (by simp) ?_ ?_ ?_ rfl rfl ?_ ?_;rotate_left 8)
      | (refine z45 [] [] 0 (sp_TableMove_c ⟨?_,?_,?_⟩ ?_ ?_ ?_) (by simp) ?_ ?_ ?_ rfl rfl ?_ ?_;rotate_left 9)
      | (refine z45 [] [] 0 (sp_TableJoin_c ⟨?_,?_,?_⟩ ?_ ?_) (by simp) ?_ ?_ ?_ rfl rfl ?_ ?_;rotate_left 8)
      | (refine z45 [] [] 0 (sp_TableLeave_c ⟨?_,?_,?_⟩ ?_ ?_) (by simp) ?_ ?_ ?_ rfl rfl ?_ ?_;rotate_left 8)
      ); (focus ((repeat' (first | simp only [z1, z2, z3, Nat.reduceEqDiff, Nat.reduceLT, not_false_eq_true] | exact z28 | refine z29 ?_ ?_ | exact z31 | refine z32 ?_ ?_ | refine z30 ?_ | exact z33 | refine z34 rfl ?_ ?_ | refine z35 ?_ | exact z13 | exact z14 | exact z15 | exact z16 | refine z17 ?_ | refine z18 rfl ?_ | refine z19 rfl ?_ ?_ | (show lτ _ _ = some _; exact rfl) | exact z20 rfl rfl | refine z20 rfl ?_ | refine z21 ?_ | refine z23 ?_ | exact z24 | refine z25 ?_ rfl rfl ?_ | refine z22 ?_ | refine z26 ?_ rfl rfl ?_ ?_ | refine z27 ?_ rfl rfl ?_ ?_ ?_ | exact True.intro | exact z4 rfl | exact z5 | exact z6 | exact z7 | exact z8 | exact z9 | exact z10 | refine z36 ?_ | refine z37 rfl ?_ | exact z38 | exact z39 | refine z40 (xs := ?_) (ys := ?_) ?_ ?_ | refine z41 (xs := ?_) (ys := ?_) ?_ ?_ ?_ ?_ | refine z42 (xs := ?_) ?_ | refine z43 (xs := ?_) ?_ | refine z44 (x := ?_) (xs := ?_) ?_ ?_ | refine RowsAre.rep (x := ?_) (n := ?_) ?_ | (with_reducible show RowIs _ _ _; first | exact GCmd_row _ | exact GCmd_mk _ _ _ _ _ _ | exact GTable_row _ | exact GTable_mk _ _ _ | exact GTableRange_row _ | exact GTableRange_mk _ _ _ | exact GPlan_row _ | exact GPlan_mk _ _ _ _ _ _ _ | exact GPlanSeen_row _ | exact GPlanSeen_mk _ _ _) | with_reducible exact rfl | (refine z11 ?_; omega) | (refine z12 ?_; omega) | simp only [List.length_append, List.length_map, List.length_cons, List.length_nil, List.length_set, List.length_replicate])); (all_goals (fail_if_success (with_reducible show FZ _ _))); (all_goals (fail_if_success (with_reducible show List.contains _ _ = true))); (all_goals (fail_if_success (with_reducible show False))); (all_goals (fail_if_success (with_reducible show VSub _ _ _ _ _ _))))); rotate_right 1; (focus ((repeat' (first | simp only [z1, z2, z3, Nat.reduceEqDiff, Nat.reduceLT, not_false_eq_true] | exact z28 | refine z29 ?_ ?_ | exact z31 | refine z32 ?_ ?_ | refine z30 ?_ | exact z33 | refine z34 rfl ?_ ?_ | refine z35 ?_ | exact z13 | exact z14 | exact z15 | exact z16 | refine z17 ?_ | refine z18 rfl ?_ | refine z19 rfl ?_ ?_ | (show lτ _ _ = some _; exact rfl) | exact z20 rfl rfl | refine z20 rfl ?_ | refine z21 ?_ | refine z23 ?_ | exact z24 | refine z25 ?_ rfl rfl ?_ | refine z22 ?_ | refine z26 ?_ rfl rfl ?_ ?_ | refine z27 ?_ rfl rfl ?_ ?_ ?_ | exact True.intro | exact z4 rfl | exact z5 | exact z6 | exact z7 | exact z8 | exact z9 | exact z10 | refine z36 ?_ | refine z37 rfl ?_ | exact z38 | exact z39 | refine z40 (xs := ?_) (ys := ?_) ?_ ?_ | refine z41 (xs := ?_) (ys := ?_) ?_ ?_ ?_ ?_ | refine z42 (xs := ?_) ?_ | refine z43 (xs := ?_) ?_ | refine z44 (x := ?_) (xs := ?_) ?_ ?_ | refine RowsAre.rep (x := ?_) (n := ?_) ?_ | (with_reducible show RowIs _ _ _; first | exact GCmd_row _ | exact GCmd_mk _ _ _ _ _ _ | exact GTable_row _ | exact GTable_mk _ _ _ | exact GTableRange_row _ | exact GTableRange_mk _ _ _ | exact GPlan_row _ | exact GPlan_mk _ _ _ _ _ _ _ | exact GPlanSeen_row _ | exact GPlanSeen_mk _ _ _) | with_reducible exact rfl | (refine z11 ?_; omega) | (refine z12 ?_; omega) | simp only [List.length_append, List.length_map, List.length_cons, List.length_nil, List.length_set, List.length_replicate])); (all_goals (fail_if_success (with_reducible show FZ _ _))); (all_goals (fail_if_success (with_reducible show List.contains _ _ = true))); (all_goals (fail_if_success (with_reducible show False))); (all_goals (fail_if_success (with_reducible show VSub _ _ _ _ _ _))); (all_goals (fail_if_success (with_reducible show HTell _ _ _ _ _ _))))); (all_goals (try (with_reducible refine z48 ?_); exact rfl)); (all_goals (try (with_reducible refine z47 ?_); try with_reducible exact rfl)); any_goals (rintro _ _ ⟨rfl, rfl⟩ _; simp only [go_sem, reduceCtorEq, Nat.reduceAdd, Nat.reduceSub, Nat.reduceMul, Nat.reduceLeDiff, Nat.reduceLT, Nat.reduceEqDiff]))
    | ((first
      | (refine z46 [] [?_] 0 (sp_TableSplit_c ⟨?_,?_,?_⟩ ?_ ?_) (by simp) ?_ ?_ ?_ rfl rfl ?_ (freeP (by simp [AFree,AFreeL]) (HFree.cons (BFree.rows GTableRange_lit) HFree.nil)) ?_;rotate_left 9)
      | (refine z46 [] [?_] 0 (sp_TableMerge_c ⟨?_,?_,?_⟩ ?_ ?_) (by simp) ?_ ?_ ?_ rfl rfl ?_ (freeP (by simp [AFree,AFreeL]) (HFree.cons (BFree.rows GTableRange_lit) HFree.nil)) ?_;rotate_left 9)
      | (refine z46 [] [?_] 0 (sp_TableMove_c ⟨?_,?_,?_⟩ ?_ ?_ ?_) (by simp) ?_ ?_ ?_ rfl rfl ?_ (freeP (by simp [AFree,AFreeL]) (HFree.cons (BFree.rows GTableRange_lit) HFree.nil)) ?_;rotate_left 10)
      | (refine z46 [] [?_] 0 (sp_TableJoin_c ⟨?_,?_,?_⟩ ?_ ?_) (by simp) ?_ ?_ ?_ rfl rfl ?_ (freeP (by simp [AFree,AFreeL]) (HFree.cons (BFree.rows GTableRange_lit) HFree.nil)) ?_;rotate_left 9)
      | (refine z46 [] [?_] 0 (sp_TableLeave_c ⟨?_,?_,?_⟩ ?_ ?_) (by simp) ?_ ?_ ?_ rfl rfl ?_ (freeP (by simp [AFree,AFreeL]) (HFree.cons (BFree.rows GTableRange_lit) HFree.nil)) ?_;rotate_left 9)
      ); (focus ((repeat' (first | simp only [z1, z2, z3, Nat.reduceEqDiff, Nat.reduceLT, not_false_eq_true] | exact z28 | refine z29 ?_ ?_ | exact z31 | refine z32 ?_ ?_ | refine z30 ?_ | exact z33 | refine z34 rfl ?_ ?_ | refine z35 ?_ | exact z13 | exact z14 | exact z15 | exact z16 | refine z17 ?_ | refine z18 rfl ?_ | refine z19 rfl ?_ ?_ | (show lτ _ _ = some _; exact rfl) | exact z20 rfl rfl | refine z20 rfl ?_ | refine z21 ?_ | refine z23 ?_ | exact z24 | refine z25 ?_ rfl rfl ?_ | refine z22 ?_ | refine z26 ?_ rfl rfl ?_ ?_ | refine z27 ?_ rfl rfl ?_ ?_ ?_ | exact True.intro | exact z4 rfl | exact z5 | exact z6 | exact z7 | exact z8 | exact z9 | exact z10 | refine z36 ?_ | refine z37 rfl ?_ | exact z38 | exact z39 | refine z40 (xs := ?_) (ys := ?_) ?_ ?_ | refine z41 (xs := ?_) (ys := ?_) ?_ ?_ ?_ ?_ | refine z42 (xs := ?_) ?_ | refine z43 (xs := ?_) ?_ | refine z44 (x := ?_) (xs := ?_) ?_ ?_ | refine RowsAre.rep (x := ?_) (n := ?_) ?_ | (with_reducible show RowIs _ _ _; first | exact GCmd_row _ | exact GCmd_mk _ _ _ _ _ _ | exact GTable_row _ | exact GTable_mk _ _ _ | exact GTableRange_row _ | exact GTableRange_mk _ _ _ | exact GPlan_row _ | exact GPlan_mk _ _ _ _ _ _ _ | exact GPlanSeen_row _ | exact GPlanSeen_mk _ _ _) | with_reducible exact rfl | (refine z11 ?_; omega) | (refine z12 ?_; omega) | simp only [List.length_append, List.length_map, List.length_cons, List.length_nil, List.length_set, List.length_replicate])); (all_goals (fail_if_success (with_reducible show FZ _ _))); (all_goals (fail_if_success (with_reducible show List.contains _ _ = true))); (all_goals (fail_if_success (with_reducible show False))); (all_goals (fail_if_success (with_reducible show VSub _ _ _ _ _ _))))); rotate_right 1; (focus ((repeat' (first | simp only [z1, z2, z3, Nat.reduceEqDiff, Nat.reduceLT, not_false_eq_true] | exact z28 | refine z29 ?_ ?_ | exact z31 | refine z32 ?_ ?_ | refine z30 ?_ | exact z33 | refine z34 rfl ?_ ?_ | refine z35 ?_ | exact z13 | exact z14 | exact z15 | exact z16 | refine z17 ?_ | refine z18 rfl ?_ | refine z19 rfl ?_ ?_ | (show lτ _ _ = some _; exact rfl) | exact z20 rfl rfl | refine z20 rfl ?_ | refine z21 ?_ | refine z23 ?_ | exact z24 | refine z25 ?_ rfl rfl ?_ | refine z22 ?_ | refine z26 ?_ rfl rfl ?_ ?_ | refine z27 ?_ rfl rfl ?_ ?_ ?_ | exact True.intro | exact z4 rfl | exact z5 | exact z6 | exact z7 | exact z8 | exact z9 | exact z10 | refine z36 ?_ | refine z37 rfl ?_ | exact z38 | exact z39 | refine z40 (xs := ?_) (ys := ?_) ?_ ?_ | refine z41 (xs := ?_) (ys := ?_) ?_ ?_ ?_ ?_ | refine z42 (xs := ?_) ?_ | refine z43 (xs := ?_) ?_ | refine z44 (x := ?_) (xs := ?_) ?_ ?_ | refine RowsAre.rep (x := ?_) (n := ?_) ?_ | (with_reducible show RowIs _ _ _; first | exact GCmd_row _ | exact GCmd_mk _ _ _ _ _ _ | exact GTable_row _ | exact GTable_mk _ _ _ | exact GTableRange_row _ | exact GTableRange_mk _ _ _ | exact GPlan_row _ | exact GPlan_mk _ _ _ _ _ _ _ | exact GPlanSeen_row _ | exact GPlanSeen_mk _ _ _) | with_reducible exact rfl | (refine z11 ?_; omega) | (refine z12 ?_; omega) | simp only [List.length_append, List.length_map, List.length_cons, List.length_nil, List.length_set, List.length_replicate])); (all_goals (fail_if_success (with_reducible show FZ _ _))); (all_goals (fail_if_success (with_reducible show List.contains _ _ = true))); (all_goals (fail_if_success (with_reducible show False))); (all_goals (fail_if_success (with_reducible show VSub _ _ _ _ _ _))); (all_goals (fail_if_success (with_reducible show HTell _ _ _ _ _ _))))); (all_goals (try (with_reducible refine z48 ?_); exact rfl)); (all_goals (try (with_reducible refine z47 ?_); try with_reducible exact rfl)); any_goals (rintro _ _ ⟨rfl, rfl⟩ _; simp only [go_sem, reduceCtorEq, Nat.reduceAdd, Nat.reduceSub, Nat.reduceMul, Nat.reduceLeDiff, Nat.reduceLT, Nat.reduceEqDiff]))
    | ((first
      | (refine z45 [] [?_] 0 (sp_TableSplit_c ⟨?_,?_,?_⟩ ?_ ?_) (by simp) ?_ ?_ ?_ rfl rfl ?_ ?_;rotate_left 9)
      | (refine z45 [] [?_] 0 (sp_TableMerge_c ⟨?_,?_,?_⟩ ?_ ?_) (by simp) ?_ ?_ ?_ rfl rfl ?_ ?_;rotate_left 9)
      | (refine z45 [] [?_] 0 (sp_TableMove_c ⟨?_,?_,?_⟩ ?_ ?_ ?_) (by simp) ?_ ?_ ?_ rfl rfl ?_ ?_;rotate_left 10)
      | (refine z45 [] [?_] 0 (sp_TableJoin_c ⟨?_,?_,?_⟩ ?_ ?_) (by simp) ?_ ?_ ?_ rfl rfl ?_ ?_;rotate_left 9)
      | (refine z45 [] [?_] 0 (sp_TableLeave_c ⟨?_,?_,?_⟩ ?_ ?_) (by simp) ?_ ?_ ?_ rfl rfl ?_ ?_;rotate_left 9)
      ); (focus ((repeat' (first | simp only [z1, z2, z3, Nat.reduceEqDiff, Nat.reduceLT, not_false_eq_true] | exact z28 | refine z29 ?_ ?_ | exact z31 | refine z32 ?_ ?_ | refine z30 ?_ | exact z33 | refine z34 rfl ?_ ?_ | refine z35 ?_ | exact z13 | exact z14 | exact z15 | exact z16 | refine z17 ?_ | refine z18 rfl ?_ | refine z19 rfl ?_ ?_ | (show lτ _ _ = some _; exact rfl) | exact z20 rfl rfl | refine z20 rfl ?_ | refine z21 ?_ | refine z23 ?_ | exact z24 | refine z25 ?_ rfl rfl ?_ | refine z22 ?_ | refine z26 ?_ rfl rfl ?_ ?_ | refine z27 ?_ rfl rfl ?_ ?_ ?_ | exact True.intro | exact z4 rfl | exact z5 | exact z6 | exact z7 | exact z8 | exact z9 | exact z10 | refine z36 ?_ | refine z37 rfl ?_ | exact z38 | exact z39 | refine z40 (xs := ?_) (ys := ?_) ?_ ?_ | refine z41 (xs := ?_) (ys := ?_) ?_ ?_ ?_ ?_ | refine z42 (xs := ?_) ?_ | refine z43 (xs := ?_) ?_ | refine z44 (x := ?_) (xs := ?_) ?_ ?_ | refine RowsAre.rep (x := ?_) (n := ?_) ?_ | (with_reducible show RowIs _ _ _; first | exact GCmd_row _ | exact GCmd_mk _ _ _ _ _ _ | exact GTable_row _ | exact GTable_mk _ _ _ | exact GTableRange_row _ | exact GTableRange_mk _ _ _ | exact GPlan_row _ | exact GPlan_mk _ _ _ _ _ _ _ | exact GPlanSeen_row _ | exact GPlanSeen_mk _ _ _) | with_reducible exact rfl | (refine z11 ?_; omega) | (refine z12 ?_; omega) | simp only [List.length_append, List.length_map, List.length_cons, List.length_nil, List.length_set, List.length_replicate])); (all_goals (fail_if_success (with_reducible show FZ _ _))); (all_goals (fail_if_success (with_reducible show List.contains _ _ = true))); (all_goals (fail_if_success (with_reducible show False))); (all_goals (fail_if_success (with_reducible show VSub _ _ _ _ _ _))))); rotate_right 1; (focus ((repeat' (first | simp only [z1, z2, z3, Nat.reduceEqDiff, Nat.reduceLT, not_false_eq_true] | exact z28 | refine z29 ?_ ?_ | exact z31 | refine z32 ?_ ?_ | refine z30 ?_ | exact z33 | refine z34 rfl ?_ ?_ | refine z35 ?_ | exact z13 | exact z14 | exact z15 | exact z16 | refine z17 ?_ | refine z18 rfl ?_ | refine z19 rfl ?_ ?_ | (show lτ _ _ = some _; exact rfl) | exact z20 rfl rfl | refine z20 rfl ?_ | refine z21 ?_ | refine z23 ?_ | exact z24 | refine z25 ?_ rfl rfl ?_ | refine z22 ?_ | refine z26 ?_ rfl rfl ?_ ?_ | refine z27 ?_ rfl rfl ?_ ?_ ?_ | exact True.intro | exact z4 rfl | exact z5 | exact z6 | exact z7 | exact z8 | exact z9 | exact z10 | refine z36 ?_ | refine z37 rfl ?_ | exact z38 | exact z39 | refine z40 (xs := ?_) (ys := ?_) ?_ ?_ | refine z41 (xs := ?_) (ys := ?_) ?_ ?_ ?_ ?_ | refine z42 (xs := ?_) ?_ | refine z43 (xs := ?_) ?_ | refine z44 (x := ?_) (xs := ?_) ?_ ?_ | refine RowsAre.rep (x := ?_) (n := ?_) ?_ | (with_reducible show RowIs _ _ _; first | exact GCmd_row _ | exact GCmd_mk _ _ _ _ _ _ | exact GTable_row _ | exact GTable_mk _ _ _ | exact GTableRange_row _ | exact GTableRange_mk _ _ _ | exact GPlan_row _ | exact GPlan_mk _ _ _ _ _ _ _ | exact GPlanSeen_row _ | exact GPlanSeen_mk _ _ _) | with_reducible exact rfl | (refine z11 ?_; omega) | (refine z12 ?_; omega) | simp only [List.length_append, List.length_map, List.length_cons, List.length_nil, List.length_set, List.length_replicate])); (all_goals (fail_if_success (with_reducible show FZ _ _))); (all_goals (fail_if_success (with_reducible show List.contains _ _ = true))); (all_goals (fail_if_success (with_reducible show False))); (all_goals (fail_if_success (with_reducible show VSub _ _ _ _ _ _))); (all_goals (fail_if_success (with_reducible show HTell _ _ _ _ _ _))))); (all_goals (try (with_reducible refine z48 ?_); exact rfl)); (all_goals (try (with_reducible refine z47 ?_); try with_reducible exact rfl)); any_goals (rintro _ _ ⟨rfl, rfl⟩ _; simp only [go_sem, reduceCtorEq, Nat.reduceAdd, Nat.reduceSub, Nat.reduceMul, Nat.reduceLeDiff, Nat.reduceLT, Nat.reduceEqDiff]))
    | omega
    | (refine Tri.cond (b := ?_) ?_ ?_ ?_;rotate_left 1;focus (simp only [ev,z1,z2,Nat.reduceEqDiff,Nat.reduceLT,not_false_eq_true];exact rfl))
    | (intro h;(try simp only [decide_eq_true_eq,decide_eq_false_iff_not,Int.not_lt,Int.not_le,beq_iff_eq,bne_iff_ne,beq_eq_false_iff_ne,bne_eq_false_iff_eq,ne_eq,Bool.not_eq_true',Bool.not_eq_false',Decidable.not_not] at h);(try contradiction))
    | (refine Tri.skip ?_;try change Tri _ _ _ _ _ _)
    | (refine Tri.exit ?_;try change Tri _ _ _ _ _ _)
    | refine Tri.ret ?_
    | refine Tri.block ?_
    | refine Tri.seq ?_
    | ((guard_hyp t0;refine EndK.eqv (vs := ?_) (f := fun x : GPlan × Int => .tup [.agg [.lit (.int .i64 x.1.At),.lit (.int .i64 x.1.Table.Epoch),.lit (.int .i64 x.1.Table.Members),.r (.rd 3 encGTableRange x.1.Table.Ranges),.r (.rd 3 encGPlanSeen x.1.Seen),.lit (.int .i64 x.1.Old),.lit (.int .i64 x.1.New)],.lit (.int .i64 x.2)]) (⟨?_,⟨?_,?_,?_⟩,?_,?_,?_⟩,?_) (by first|exact .inr rfl|exact .inl rfl) ?_ ?_ ?_;rotate_left 9);(focus (simp only [go_sem,reduceCtorEq,Nat.reduceAdd,Nat.reduceSub,Nat.reduceMul,Nat.reduceLeDiff,Nat.reduceLT,Nat.reduceEqDiff];exact rfl));(focus (repeat' (first|simp only [z1,z2,z3,Nat.reduceEqDiff,Nat.reduceLT,not_false_eq_true]|exact z28|refine z29 ?_ ?_|exact z31|refine z32 ?_ ?_|refine z30 ?_|exact z33|refine z34 rfl ?_ ?_|refine z35 ?_|exact z13|exact z14|exact z15|exact z16|refine z17 ?_|refine z18 rfl ?_|refine VSub.sl' rfl ?_ ?_|(show lτ _ _ = some _;exact rfl)|exact z20 rfl rfl|refine z20 rfl ?_|refine z21 ?_|refine z23 ?_|exact z24|refine z25 ?_ rfl rfl ?_|refine z22 ?_|refine z26 ?_ rfl rfl ?_ ?_|refine z27 ?_ rfl rfl ?_ ?_ ?_|exact True.intro|exact z4 rfl|exact z5|exact z6|exact z7|exact z8|exact z9|exact z10|refine z36 ?_|refine z37 rfl ?_|exact z38|exact z39|refine z40 (xs := ?_) (ys := ?_) ?_ ?_|refine z41 (xs := ?_) (ys := ?_) ?_ ?_ ?_ ?_|refine z42 (xs := ?_) ?_|refine z43 (xs := ?_) ?_|refine z44 (x := ?_) (xs := ?_) ?_ ?_|refine RowsAre.rep (x := ?_) (n := ?_) ?_|(with_reducible show RowIs _ _ _;first|exact GCmd_row _|exact GCmd_mk _ _ _ _ _ _|exact GTable_row _|exact GTable_mk _ _ _|exact GTableRange_row _|exact GTableRange_mk _ _ _|exact GPlan_row _|exact GPlan_mk _ _ _ _ _ _ _|exact GPlanSeen_row _|exact GPlanSeen_mk _ _ _)|with_reducible exact rfl|(refine z11 ?_;omega)|(refine z12 ?_;omega)|simp only [List.length_append,List.length_map,List.length_cons,List.length_nil,List.length_set,List.length_replicate])))))
  all_goals (try clear h1); all_goals (try clear K1); all_goals (try clear hK); all_goals (try clear K); all_goals (try dsimp only); all_goals (try simp only [Bool.not_eq_false', Bool.not_eq_true', decide_eq_true_eq, decide_eq_false_iff_not] at *); all_goals (try simp only [GCmd_eta, GTable_eta, GTableRange_eta, GPlan_eta, GPlanSeen_eta] at *)
  all_goals first
    | omega
    | (simp only [List.length_cons,List.length_nil,Nat.reduceAdd];done)
    | (simp only [List.length_set,List.length_append,List.length_cons,List.length_nil,List.length_map,List.length_take,List.length_drop];omega)
    | (obtain ⟨x,_,rfl⟩ := List.mem_map.1 (by assumption);rfl)
    | (obtain ⟨x,_,rfl⟩ := List.mem_map.1 (List.mem_of_mem_take (by assumption));rfl)
    | (obtain ⟨x,_,rfl⟩ := List.mem_map.1 (List.mem_of_mem_drop (List.mem_of_mem_take (by assumption)));rfl)
    | (simp (disch := omega) only [wr_id];omega)
    | (guard_hyp t0;first|(rw [sp_l3Table];all_goals first|grind|(repeat' split) <;> first|rfl|grind))
    | grind)
theorem sp_l3Table_c : Ssp_l3Table_c := layH1c1
end Go.Proofs.YtlojldccjmkikaaGreat
end
section
/-! Lengths of what becomes of plans. -/
namespace Go.Proofs.YtlojldccjmkikaaGreat
open Go.Ae
theorem spCopy_eq (p : GPlan) : sp_l3Copy p = p := by simp [sp_l3Copy, l2Copy_eq]
theorem group_tab (p : GPlan) (t : Int) : (sp_l3Group p t).1.Table = p.Table := by unfold sp_l3Group; repeat' split
                                                                                   all_goals rfl
theorem group_seen (p : GPlan) (t : Int) : (sp_l3Group p t).1.Seen = p.Seen := by unfold sp_l3Group; repeat' split
                                                                                  all_goals rfl
theorem tell_tab (p : GPlan) (x : GPlanSeen) : (sp_l3Tell p x).Table = p.Table := rfl
theorem tell_L (p : GPlan) (x : GPlanSeen) : ∀ (m s : Nat) (out : List GPlanSeen), 4 - s = m → out.length ≤ s → s ≤ 4 → (sp_l3Tell_L1 p x out s).length ≤ 4 := by
  intro m
  induction m with
  | zero => intro s out h h1 h2; rw [sp_l3Tell_L1, dif_neg (by omega)]; omega
  | succ m ih =>
    intro s out h h1 h2
    rw [sp_l3Tell_L1, dif_pos (by omega)]
    simp only []
    generalize (if (s : Int) = x.Session then x else sp_l3Seen p (s : Int)) = y
    split
    · apply ih (s + 1)
      · omega
      · simp only [List.length_append, List.length_cons, List.length_nil]; omega
      · omega
    · apply ih (s + 1)
      · omega
      · omega
      · omega
theorem tell_seen (p : GPlan) (x : GPlanSeen) : (sp_l3Tell p x).Seen.length ≤ 4 := tell_L p x 4 0 [] rfl (by simp) (by omega)
theorem Good.lens {t : GTable} {x : GTable × Int} (h : Good t x) : x.1.Ranges.length ≤ t.Ranges.length + 8 := by
  by_cases hok : OkT t
  · by_cases h1 : x.2 = 0
    · have := (h.2.2 h1).1.2.2.1.2; omega
    · rw [h.2.1 hok h1]; omega
  · rw [h.1 hok]; simp
theorem table_tab (p : GPlan) (c : GCmd) : (sp_l3Table p c).1.Table.Ranges.length ≤ p.Table.Ranges.length + 8 := by
  unfold sp_l3Table
  simp only []
  repeat' split
  all_goals first
    | exact (split_both _ _).2.lens
    | exact (merge_both _ _).2.lens
    | exact (move_both _ _ _).2.lens
    | exact (join_both _ _).2.lens
    | exact (leave_both _ _).2.lens
    | (simp only []; omega)
theorem table_seen (p : GPlan) (c : GCmd) : (sp_l3Table p c).1.Seen = p.Seen := rfl
theorem planOk_lens {p : GPlan} (h : sp_PlanOk p = true) : p.Table.Ranges.length ≤ 8 ∧ p.Seen.length ≤ 4 := by
  unfold sp_PlanOk at h
  split at h
  · cases h
  · rename_i hc
    have h1 : sp_TableOk p.Table = true := by
      cases e : sp_TableOk p.Table with
      | true => rfl
      | false => exact absurd (.inl (.inl (.inl (.inr e)))) hc
    have h2 := ((spOk_iff _).1 h1).2.2.1.2
    have h3 : ¬(p.Seen.length : Int) > 4 := fun g => hc (.inl (.inl (.inr g)))
    exact ⟨h2, by omega⟩
end Go.Proofs.YtlojldccjmkikaaGreat
end
