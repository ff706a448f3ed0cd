/- Contracts of the law's marks of plans, for lists whose lengths are bounded as stated. -/
import Derived.Test.YtlojldccjmkikaaGreatK2
set_option linter.unusedVariables false
set_option linter.unusedSimpArgs false
namespace Go.Proofs.YtlojldccjmkikaaGreat
open Go.Ae
open Go.Ae renaming getR_eq → z1, getR_ne → z2, getR_nil → z3, lF_mk → z4, cont1 → z5, cont2a → z6, cont2b → z7, cont3a → z8, cont3b → z9, cont3c → z10, wr_up → z11, wr_dn → z12
open Go.Ae.VSub renaming any' → z13, same → z14, nilRd → z15, mtRd → z16, lit → z17, ptr' → z18, slD → z19, slNil → z20, agg' → z21, tup' → z22, fn' → z23, rpSame → z24, rpF → z25, frz → z26, frzC → z27
open Go.Ae.LSub renaming nil' → z28, cons' → z29, mkR' → z30
open Go.Ae.SSub renaming nil' → z31, cons' → z32
open Go.Ae.HTell renaming nil' → z33, some' → z34, freshRows → z35
open Go.Ae.BSub renaming cells' → z36, own → z37
open Go.Ae.RowsAre renaming map → z38, nil → z39, app → z40, spl → z41, take → z42, drop → z43, cons → z44
open Go.Ae.CallA renaming frameq → z45
set_option linter.unusedSimpArgs false
set_option linter.unusedVariables false
attribute [local irreducible] wr bitsOf VSub LSub SSub HTell BSub RowIs RowsAre Ent lF mkR
def lw_markTable (a : GTable) (k : Int) : Int × GTable :=
  let c1 := lw_markTableRangeS a.Ranges k
  let a := { a with Ranges := c1.2 }
  let k := c1.1
  (k, a)
def lw_markPlan (a : GPlan) (k : Int) : Int × GPlan :=
  let c1 := lw_markTable a.Table k
  let a := { a with Table := c1.2 }
  let k := c1.1
  let c2 := lw_markPlanSeenS a.Seen k
  let a := { a with Seen := c2.2 }
  let k := c2.1
  (k, a)
def Slw_markTable_c : Prop := ∀ (a : GTable) (k : Int) (hp0 : a.Ranges.length ≤ 2147483648), Does Tryz.prog 53 1 [.agg [.lit (.int .i64 a.Epoch), .lit (.int .i64 a.Members), .sl 0 3 0 a.Ranges.length], .lit (.int .i64 k)] [some (.rows 3 (fun q => (encGTableRange q).map AV.r) a.Ranges)] (fun vv H2 => vv = .lit (.int .i64 (lw_markTable a k).1) ∧ H2 = [some (.rows 3 (fun q => (encGTableRange q).map AV.r) (lw_markTable a k).2.Ranges)])
def Slw_markPlan_c : Prop := ∀ (a : GPlan) (k : Int) (hp0 : a.Table.Ranges.length ≤ 2147483648) (hp1 : a.Seen.length ≤ 2147483648), Does Tryz.prog 16 2 [.agg [.lit (.int .i64 a.At), .lit (.int .i64 a.Table.Epoch), .lit (.int .i64 a.Table.Members), .sl 0 3 0 a.Table.Ranges.length, .sl 1 3 0 a.Seen.length, .lit (.int .i64 a.Old), .lit (.int .i64 a.New)], .lit (.int .i64 k)] [some (.rows 3 (fun q => (encGTableRange q).map AV.r) a.Table.Ranges), some (.rows 3 (fun q => (encGPlanSeen q).map AV.r) a.Seen)] (fun vv H2 => vv = .lit (.int .i64 (lw_markPlan a k).1) ∧ H2 = [some (.rows 3 (fun q => (encGTableRange q).map AV.r) (lw_markPlan a k).2.Table.Ranges), some (.rows 3 (fun q => (encGPlanSeen q).map AV.r) (lw_markPlan a k).2.Seen)])
set_option maxRecDepth 10000 in
set_option maxHeartbeats 4000000 in
theorem layK31 : (Slw_markTable_c) ∧ (Slw_markTable_c → Slw_markPlan_c) := by
  refine ⟨fun a k hp0 => have t0 := tg 0; Does.goR Tryz.func53 Tryz.ntmps53 Tryz.results53 rfl (by simp) rfl ?_,
    fun lw_markTable_c a k hp0 hp1 => have t1 := tg 1; Does.goR Tryz.func16 Tryz.ntmps16 Tryz.results16 rfl (by simp) rfl ?_⟩
  all_goals (
  simp only [argR, Nat.reduceAdd]
  repeat' (first
    | (refine Tri.regSeq fun K hK => RegS.run ?_)
    | (refine Tri.reg fun K hK => RegS.run ?_)
    | (refine RegS.nil (hK _ _ ?_);clear hK K)
    | (refine QuietS.nil (hK _ _ ?_);clear hK K)
    | ((first|refine RegS.step fun K1 h1 => ?_|refine QuietS.step fun K1 h1 => ?_);simp only [go_sem,reduceCtorEq,Nat.reduceAdd,Nat.reduceSub,Nat.reduceMul,Nat.reduceLeDiff,Nat.reduceLT,Nat.reduceEqDiff])
    | (with_reducible refine GTableRange_ex _ _ _ ?_)
    | (with_reducible refine GPlanSeen_ex _ _ _ ?_)
    | (refine h1 _ _ ?_;clear h1 K1)
    | refine And.intro ?_ ?_
    | ((first
      | (refine z45 [?_] [] 1 (lw_markTableRangeS_c ?_ ?_ ?_) (by simp) ?_ ?_ ?_ rfl rfl ?_ ?_;rotate_left 7)
      | (refine z45 [?_] [] 1 (lw_markTable_c ⟨?_,?_,?_⟩ ?_ ?_) (by simp) ?_ ?_ ?_ rfl rfl ?_ ?_;rotate_left 9)
      | (refine z45 [?_] [] 1 (lw_markPlanSeenS_c ?_ ?_ ?_) (by simp) ?_ ?_ ?_ rfl rfl ?_ ?_;rotate_left 7)
      ); (focus ((repeat' (first | simp only [z1, z2, z3, Nat.reduceEqDiff, Nat.reduceLT, not_false_eq_true] | exact z28 | refine z29 ?_ ?_ | exact z31 | refine z32 ?_ ?_ | refine z30 ?_ | exact z33 | refine z34 rfl ?_ ?_ | refine z35 ?_ | exact z13 | exact z14 | exact z15 | exact z16 | refine z17 ?_ | refine z18 rfl ?_ | refine z19 rfl ?_ ?_ | (show lτ _ _ = some _; exact rfl) | exact z20 rfl rfl | refine z20 rfl ?_ | refine z21 ?_ | refine z23 ?_ | exact z24 | refine z25 ?_ rfl rfl ?_ | refine z22 ?_ | refine z26 ?_ rfl rfl ?_ ?_ | refine z27 ?_ rfl rfl ?_ ?_ ?_ | exact True.intro | exact z4 rfl | exact z5 | exact z6 | exact z7 | exact z8 | exact z9 | exact z10 | refine z36 ?_ | refine z37 rfl ?_ | exact z38 | exact z39 | refine z40 (xs := ?_) (ys := ?_) ?_ ?_ | refine z41 (xs := ?_) (ys := ?_) ?_ ?_ ?_ ?_ | refine z42 (xs := ?_) ?_ | refine z43 (xs := ?_) ?_ | refine z44 (x := ?_) (xs := ?_) ?_ ?_ | refine RowsAre.rep (x := ?_) (n := ?_) ?_ | (with_reducible show RowIs _ _ _; first | exact GTable_row _ | exact GTable_mk _ _ _ | exact GTableRange_row _ | exact GTableRange_mk _ _ _ | exact GPlan_row _ | exact GPlan_mk _ _ _ _ _ _ _ | exact GPlanSeen_row _ | exact GPlanSeen_mk _ _ _) | with_reducible exact rfl | (refine z11 ?_; omega) | (refine z12 ?_; omega) | simp only [List.length_append, List.length_map, List.length_cons, List.length_nil, List.length_set, List.length_replicate])); (all_goals (fail_if_success (with_reducible show FZ _ _))); (all_goals (fail_if_success (with_reducible show List.contains _ _ = true))); (all_goals (fail_if_success (with_reducible show False))); (all_goals (fail_if_success (with_reducible show VSub _ _ _ _ _ _))))); rotate_right 1; (focus ((repeat' (first | simp only [z1, z2, z3, Nat.reduceEqDiff, Nat.reduceLT, not_false_eq_true] | exact z28 | refine z29 ?_ ?_ | exact z31 | refine z32 ?_ ?_ | refine z30 ?_ | exact z33 | refine z34 rfl ?_ ?_ | refine z35 ?_ | exact z13 | exact z14 | exact z15 | exact z16 | refine z17 ?_ | refine z18 rfl ?_ | refine z19 rfl ?_ ?_ | (show lτ _ _ = some _; exact rfl) | exact z20 rfl rfl | refine z20 rfl ?_ | refine z21 ?_ | refine z23 ?_ | exact z24 | refine z25 ?_ rfl rfl ?_ | refine z22 ?_ | refine z26 ?_ rfl rfl ?_ ?_ | refine z27 ?_ rfl rfl ?_ ?_ ?_ | exact True.intro | exact z4 rfl | exact z5 | exact z6 | exact z7 | exact z8 | exact z9 | exact z10 | refine z36 ?_ | refine z37 rfl ?_ | exact z38 | exact z39 | refine z40 (xs := ?_) (ys := ?_) ?_ ?_ | refine z41 (xs := ?_) (ys := ?_) ?_ ?_ ?_ ?_ | refine z42 (xs := ?_) ?_ | refine z43 (xs := ?_) ?_ | refine z44 (x := ?_) (xs := ?_) ?_ ?_ | refine RowsAre.rep (x := ?_) (n := ?_) ?_ | (with_reducible show RowIs _ _ _; first | exact GTable_row _ | exact GTable_mk _ _ _ | exact GTableRange_row _ | exact GTableRange_mk _ _ _ | exact GPlan_row _ | exact GPlan_mk _ _ _ _ _ _ _ | exact GPlanSeen_row _ | exact GPlanSeen_mk _ _ _) | with_reducible exact rfl | (refine z11 ?_; omega) | (refine z12 ?_; omega) | simp only [List.length_append, List.length_map, List.length_cons, List.length_nil, List.length_set, List.length_replicate])); (all_goals (fail_if_success (with_reducible show FZ _ _))); (all_goals (fail_if_success (with_reducible show List.contains _ _ = true))); (all_goals (fail_if_success (with_reducible show False))); (all_goals (fail_if_success (with_reducible show VSub _ _ _ _ _ _))); (all_goals (fail_if_success (with_reducible show HTell _ _ _ _ _ _))))); (all_goals (try (with_reducible refine BoolIs.mk ?_); exact rfl)); (all_goals (try (with_reducible refine LenEq.mk ?_); try with_reducible exact rfl)); any_goals (rintro _ _ ⟨rfl, rfl⟩ _; simp only [go_sem, reduceCtorEq, Nat.reduceAdd, Nat.reduceSub, Nat.reduceMul, Nat.reduceLeDiff, Nat.reduceLT, Nat.reduceEqDiff]))
    | omega
    | (refine Tri.cond (b := ?_) ?_ ?_ ?_;rotate_left 1;focus (simp only [ev,z1,z2,Nat.reduceEqDiff,Nat.reduceLT,not_false_eq_true];exact rfl))
    | (intro h;(try simp only [decide_eq_true_eq,decide_eq_false_iff_not,Int.not_lt,Int.not_le,beq_iff_eq,bne_iff_ne,beq_eq_false_iff_ne,bne_eq_false_iff_eq,ne_eq,Bool.not_eq_true',Bool.not_eq_false',Decidable.not_not] at h);(try contradiction))
    | (refine Tri.skip ?_;try change Tri _ _ _ _ _ _)
    | (refine Tri.exit ?_;try change Tri _ _ _ _ _ _)
    | refine Tri.ret ?_
    | refine Tri.block ?_
    | refine Tri.seq ?_
    | ((first
      | (guard_hyp t0;refine EndK.eqq (p := 1) (vs := ?_) (f := fun x : Int × GTable => .lit (.int .i64 x.1)) (g := fun x : Int × GTable => [some (.rows 3 (fun q => (encGTableRange q).map AV.r) x.2.Ranges)]) (?_,⟨a.Epoch,a.Members,?_⟩) [some 0] (by first|exact .inr rfl|exact .inl rfl) ?_ ?_ ?_ (by simp) ?_ ?_ ?_;rotate_left 3)
      | (guard_hyp t1;refine EndK.eqq (p := 2) (vs := ?_) (f := fun x : Int × GPlan => .lit (.int .i64 x.1)) (g := fun x : Int × GPlan => [some (.rows 3 (fun q => (encGTableRange q).map AV.r) x.2.Table.Ranges),some (.rows 3 (fun q => (encGPlanSeen q).map AV.r) x.2.Seen)]) (?_,⟨a.At,⟨a.Table.Epoch,a.Table.Members,?_⟩,?_,a.Old,a.New⟩) [some 0,some 1] (by first|exact .inr rfl|exact .inl rfl) ?_ ?_ ?_ (by simp) ?_ ?_ ?_;rotate_left 4)
      ); (focus (simp only [go_sem, reduceCtorEq, Nat.reduceAdd, Nat.reduceSub, Nat.reduceMul, Nat.reduceLeDiff, Nat.reduceLT, Nat.reduceEqDiff]; exact rfl)); rotate_left 3; (focus (repeat' (first | simp only [z1, z2, z3, Nat.reduceEqDiff, Nat.reduceLT, not_false_eq_true] | exact z28 | refine z29 ?_ ?_ | exact z31 | refine z32 ?_ ?_ | refine z30 ?_ | exact z33 | refine z34 rfl ?_ ?_ | refine z35 ?_ | exact z13 | exact z14 | exact z15 | exact z16 | refine z17 ?_ | refine z18 rfl ?_ | refine z19 rfl ?_ ?_ | (show lτ _ _ = some _; exact rfl) | exact z20 rfl rfl | refine z20 rfl ?_ | refine z21 ?_ | refine z23 ?_ | exact z24 | refine z25 ?_ rfl rfl ?_ | refine z22 ?_ | refine z26 ?_ rfl rfl ?_ ?_ | refine z27 ?_ rfl rfl ?_ ?_ ?_ | exact True.intro | exact z4 rfl | exact z5 | exact z6 | exact z7 | exact z8 | exact z9 | exact z10 | refine z36 ?_ | refine z37 rfl ?_ | exact z38 | exact z39 | refine z40 (xs := ?_) (ys := ?_) ?_ ?_ | refine z41 (xs := ?_) (ys := ?_) ?_ ?_ ?_ ?_ | refine z42 (xs := ?_) ?_ | refine z43 (xs := ?_) ?_ | refine z44 (x := ?_) (xs := ?_) ?_ ?_ | refine RowsAre.rep (x := ?_) (n := ?_) ?_ | (with_reducible show RowIs _ _ _; first | exact GTable_row _ | exact GTable_mk _ _ _ | exact GTableRange_row _ | exact GTableRange_mk _ _ _ | exact GPlan_row _ | exact GPlan_mk _ _ _ _ _ _ _ | exact GPlanSeen_row _ | exact GPlanSeen_mk _ _ _) | with_reducible exact rfl | (refine z11 ?_; omega) | (refine z12 ?_; omega) | simp only [List.length_append, List.length_map, List.length_cons, List.length_nil, List.length_set, List.length_replicate]))); rotate_right 1; (focus (repeat' (first | simp only [z1, z2, z3, Nat.reduceEqDiff, Nat.reduceLT, not_false_eq_true] | exact z28 | refine z29 ?_ ?_ | exact z31 | refine z32 ?_ ?_ | refine z30 ?_ | exact z33 | refine z34 rfl ?_ ?_ | refine z35 ?_ | exact z13 | exact z14 | exact z15 | exact z16 | refine z17 ?_ | refine z18 rfl ?_ | refine z19 rfl ?_ ?_ | (show lτ _ _ = some _; exact rfl) | exact z20 rfl rfl | refine z20 rfl ?_ | refine z21 ?_ | refine z23 ?_ | exact z24 | refine z25 ?_ rfl rfl ?_ | refine z22 ?_ | refine z26 ?_ rfl rfl ?_ ?_ | refine z27 ?_ rfl rfl ?_ ?_ ?_ | exact True.intro | exact z4 rfl | exact z5 | exact z6 | exact z7 | exact z8 | exact z9 | exact z10 | refine z36 ?_ | refine z37 rfl ?_ | exact z38 | exact z39 | refine z40 (xs := ?_) (ys := ?_) ?_ ?_ | refine z41 (xs := ?_) (ys := ?_) ?_ ?_ ?_ ?_ | refine z42 (xs := ?_) ?_ | refine z43 (xs := ?_) ?_ | refine z44 (x := ?_) (xs := ?_) ?_ ?_ | refine RowsAre.rep (x := ?_) (n := ?_) ?_ | (with_reducible show RowIs _ _ _; first | exact GTable_row _ | exact GTable_mk _ _ _ | exact GTableRange_row _ | exact GTableRange_mk _ _ _ | exact GPlan_row _ | exact GPlan_mk _ _ _ _ _ _ _ | exact GPlanSeen_row _ | exact GPlanSeen_mk _ _ _) | with_reducible exact rfl | (refine z11 ?_; omega) | (refine z12 ?_; omega) | simp only [List.length_append, List.length_map, List.length_cons, List.length_nil, List.length_set, List.length_replicate]))); (all_goals (try (with_reducible refine LenEq.mk ?_); try with_reducible exact rfl)); (all_goals (try (with_reducible refine BoolIs.mk ?_); exact rfl))))
  all_goals (try clear h1); all_goals (try clear K1); all_goals (try clear hK); all_goals (try clear K); all_goals (try dsimp only); all_goals (try simp only [Bool.not_eq_false', Bool.not_eq_true', decide_eq_true_eq, decide_eq_false_iff_not] at *); all_goals (try simp only [GTable_eta, GTableRange_eta, GPlan_eta, GPlanSeen_eta] at *); all_goals (try clear lw_markTable_c)
  all_goals first
    | omega
    | (guard_hyp t0;first|((simp only [markTableRangeS_len,markPlanSeenS_len,markTable_len];done)))
    | (guard_hyp t1;first|((simp only [markTableRangeS_len,markPlanSeenS_len,markTable_len];done)))
    | (simp only [List.length_cons,List.length_nil,Nat.reduceAdd];done)
    | (simp only [List.length_set,List.length_append,List.length_cons,List.length_nil,List.length_map,List.length_take,List.length_drop];omega)
    | (obtain ⟨x,_,rfl⟩ := List.mem_map.1 (by assumption);rfl)
    | (obtain ⟨x,_,rfl⟩ := List.mem_map.1 (List.mem_of_mem_take (by assumption));rfl)
    | (obtain ⟨x,_,rfl⟩ := List.mem_map.1 (List.mem_of_mem_drop (List.mem_of_mem_take (by assumption)));rfl)
    | (simp (disch := omega) only [wr_id];omega)
    | (guard_hyp t0;first|(rw [lw_markTable];all_goals first|grind|(repeat' split) <;> first|rfl|grind))
    | (guard_hyp t1;first|(rw [lw_markPlan];all_goals first|grind|(repeat' split) <;> first|rfl|grind))
    | grind)
theorem lw_markTable_c : Slw_markTable_c := layK31.1
theorem lw_markPlan_c : Slw_markPlan_c := layK31.2 lw_markTable_c
end Go.Proofs.YtlojldccjmkikaaGreat
