/- Contracts of functions of the program on plans, second part, for lists whose lengths are bounded as stated. -/
import Derived.Test.YtlojldccjmkikaaGreatH2
import Derived.Test.YtlojldccjmkikaaGreatP1
set_option linter.unusedVariables false
set_option linter.unusedSimpArgs false
section
namespace Go.Proofs.YtlojldccjmkikaaGreat
open Go.Ae
open Go.Ae renaming getR_eq → z1, getR_ne → z2, getR_nil → z3, lF_mk → z4, cont1 → z5, cont2a → z6, cont2b → z7, cont3a → z8, cont3b → z9, cont3c → z10, wr_up → z11, wr_dn → z12
open Go.Ae.VSub renaming any' → z13, same → z14, nilRd → z15, mtRd → z16, lit → z17, ptr' → z18, slD → z19, slNil → z20, agg' → z21, tup' → z22, fn' → z23, rpSame → z24, rpF → z25, frz → z26, frzC → z27
open Go.Ae.LSub renaming nil' → z28, cons' → z29, mkR' → z30
open Go.Ae.SSub renaming nil' → z31, cons' → z32
open Go.Ae.HTell renaming nil' → z33, some' → z34, freshRows → z35
open Go.Ae.BSub renaming cells' → z36, own → z37
open Go.Ae.RowsAre renaming map → z38, nil → z39, app → z40, spl → z41, take → z42, drop → z43, cons → z44
open Go.Ae.CallA renaming frameq → z45, frameLq → z46
open Go.Ae.LenEq renaming mk → z47
open Go.Ae.BoolIs renaming mk → z48
set_option linter.unusedSimpArgs false
set_option linter.unusedVariables false
attribute [local irreducible] wr bitsOf VSub LSub SSub HTell BSub RowIs RowsAre Ent lF mkR
def slices_Clone_PlanSeen (s : List GPlanSeen) : (List GPlanSeen) :=
  s
set_option maxRecDepth 10000 in
set_option maxHeartbeats 2000000 in
theorem slices_Clone_PlanSeen_c (s : List GPlanSeen) (hp0 : s.length ≤ 2147483648) : Does Tryz.prog 124 0 [.r (.rd 3 encGPlanSeen s)] [] (fun vv H2 => vv = .sl 0 3 0 (slices_Clone_PlanSeen s).length ∧ H2 = [some (.rows 3 (fun q => (encGPlanSeen q).map AV.r) (slices_Clone_PlanSeen s))]) := by
  rcases s with _ | ⟨a0, l0⟩ <;> (
  refine Does.goR Tryz.func124 Tryz.ntmps124 Tryz.results124 rfl (Nat.zero_le _) rfl ?_
  simp only [argR, Nat.reduceAdd]
  repeat' (first
    | (refine Tri.regSeq fun K hK => RegS.run ?_)
    | (refine Tri.reg fun K hK => RegS.run ?_)
    | (refine RegS.nil (hK _ _ ?_);clear hK K)
    | (refine QuietS.nil (hK _ _ ?_);clear hK K)
    | ((first|refine RegS.step fun K1 h1 => ?_|refine QuietS.step fun K1 h1 => ?_);simp only [go_sem,reduceCtorEq,Nat.reduceAdd,Nat.reduceSub,Nat.reduceMul,Nat.reduceLeDiff,Nat.reduceLT,Nat.reduceEqDiff])
    | (with_reducible refine GPlanSeen_ex _ _ _ ?_)
    | (refine h1 _ _ ?_;clear h1 K1)
    | refine And.intro ?_ ?_
    | omega
    | (refine Tri.cond (b := ?_) ?_ ?_ ?_;rotate_left 1;focus (simp only [ev,z1,z2,Nat.reduceEqDiff,Nat.reduceLT,not_false_eq_true];exact rfl))
    | (intro h;(try simp only [decide_eq_true_eq,decide_eq_false_iff_not,Int.not_lt,Int.not_le,beq_iff_eq,bne_iff_ne,beq_eq_false_iff_ne,bne_eq_false_iff_eq,ne_eq,Bool.not_eq_true',Bool.not_eq_false',Decidable.not_not] at h);(try contradiction);(try (exfalso;simp_all;done)))
    | (refine Tri.skip ?_;try change Tri _ _ _ _ _ _)
    | (refine Tri.exit ?_;try change Tri _ _ _ _ _ _)
    | refine Tri.ret ?_
    | refine Tri.block ?_
    | refine Tri.seq ?_
    | (refine EndK.eqq (p := 0) (vs := ?_) (f := fun x : (List GPlanSeen) => .sl 0 3 0 x.length) (g := fun x : (List GPlanSeen) => [some (.rows 3 (fun q => (encGPlanSeen q).map AV.r) x)]) ?_ [?_] (by first|exact .inr rfl|exact .inl rfl) ?_ ?_ ?_ (by simp) ?_ ?_ ?_
       rotate_left 3; (focus (simp only [go_sem, reduceCtorEq, Nat.reduceAdd, Nat.reduceSub, Nat.reduceMul, Nat.reduceLeDiff, Nat.reduceLT, Nat.reduceEqDiff]; exact rfl)); rotate_left 3; (focus (repeat' (first | simp only [z1, z2, z3, Nat.reduceEqDiff, Nat.reduceLT, not_false_eq_true] | exact z28 | refine z29 ?_ ?_ | exact z31 | refine z32 ?_ ?_ | refine z30 ?_ | exact z33 | refine z34 rfl ?_ ?_ | refine z35 ?_ | exact z13 | exact z14 | exact z15 | exact z16 | refine z17 ?_ | refine z18 rfl ?_ | refine z19 rfl ?_ ?_ | (show lτ _ _ = some _; exact rfl) | exact z20 rfl rfl | refine z20 rfl ?_ | refine z21 ?_ | refine z23 ?_ | exact z24 | refine z25 ?_ rfl rfl ?_ | refine z22 ?_ | refine z26 ?_ rfl rfl ?_ ?_ | refine z27 ?_ rfl rfl ?_ ?_ ?_ | exact True.intro | exact z4 rfl | exact z5 | exact z6 | exact z7 | exact z8 | exact z9 | exact z10 | refine z36 ?_ | refine z37 rfl ?_ | exact z38 | exact z39 | refine z40 (xs := ?_) (ys := ?_) ?_ ?_ | refine z41 (xs := ?_) (ys := ?_) ?_ ?_ ?_ ?_ | refine z42 (xs := ?_) ?_ | refine z43 (xs := ?_) ?_ | refine z44 (x := ?_) (xs := ?_) ?_ ?_ | refine RowsAre.rep (x := ?_) (n := ?_) ?_ | exact GPlanSeen_row _ | exact GPlanSeen_mk _ _ _ | with_reducible exact rfl | (refine z11 ?_; omega) | (refine z12 ?_; omega) | simp only [List.length_append, List.length_map, List.length_cons, List.length_nil, List.length_set, List.length_replicate]))); rotate_right 1; (focus (repeat' (first | simp only [z1, z2, z3, Nat.reduceEqDiff, Nat.reduceLT, not_false_eq_true] | exact z28 | refine z29 ?_ ?_ | exact z31 | refine z32 ?_ ?_ | refine z30 ?_ | exact z33 | refine z34 rfl ?_ ?_ | refine z35 ?_ | exact z13 | exact z14 | exact z15 | exact z16 | refine z17 ?_ | refine z18 rfl ?_ | refine z19 rfl ?_ ?_ | (show lτ _ _ = some _; exact rfl) | exact z20 rfl rfl | refine z20 rfl ?_ | refine z21 ?_ | refine z23 ?_ | exact z24 | refine z25 ?_ rfl rfl ?_ | refine z22 ?_ | refine z26 ?_ rfl rfl ?_ ?_ | refine z27 ?_ rfl rfl ?_ ?_ ?_ | exact True.intro | exact z4 rfl | exact z5 | exact z6 | exact z7 | exact z8 | exact z9 | exact z10 | refine z36 ?_ | refine z37 rfl ?_ | exact z38 | exact z39 | refine z40 (xs := ?_) (ys := ?_) ?_ ?_ | refine z41 (xs := ?_) (ys := ?_) ?_ ?_ ?_ ?_ | refine z42 (xs := ?_) ?_ | refine z43 (xs := ?_) ?_ | refine z44 (x := ?_) (xs := ?_) ?_ ?_ | refine RowsAre.rep (x := ?_) (n := ?_) ?_ | exact GPlanSeen_row _ | exact GPlanSeen_mk _ _ _ | with_reducible exact rfl | (refine z11 ?_; omega) | (refine z12 ?_; omega) | simp only [List.length_append, List.length_map, List.length_cons, List.length_nil, List.length_set, List.length_replicate]))); (all_goals (try (with_reducible refine z47 ?_); try with_reducible exact rfl)); (all_goals (try (with_reducible refine z48 ?_); exact rfl))))
  all_goals (try clear h1); all_goals (try clear K1); all_goals (try clear hK); all_goals (try clear K); all_goals (try dsimp only); all_goals (try simp only [Bool.not_eq_false', Bool.not_eq_true', decide_eq_true_eq, decide_eq_false_iff_not] at *); all_goals (try simp only [GPlanSeen_eta] at *)
  all_goals first
    | omega
    | (simp only [List.length_cons,List.length_nil,Nat.reduceAdd];done)
    | (simp only [List.length_set,List.length_append,List.length_cons,List.length_nil,List.length_map,List.length_take,List.length_drop];omega)
    | (obtain ⟨x,_,rfl⟩ := List.mem_map.1 (by assumption);rfl)
    | (obtain ⟨x,_,rfl⟩ := List.mem_map.1 (List.mem_of_mem_take (by assumption));rfl)
    | (obtain ⟨x,_,rfl⟩ := List.mem_map.1 (List.mem_of_mem_drop (List.mem_of_mem_take (by assumption)));rfl)
    | (simp (disch := omega) only [wr_id];omega)
    | (rw [slices_Clone_PlanSeen];all_goals first|grind|(repeat' split) <;> first|rfl|grind)
    | grind)
def im_Plan_copied (p : GPlan) : GPlan :=
  let q0 := (im_Table_copied p.Table)
  let q1 := (slices_Clone_PlanSeen p.Seen)
  let p := { p with Table := q0 }
  let p := { p with Seen := q1 }
  p
def im_Plan_code (p : GPlan) (c : GCmd) : Int × GPlan :=
  let code := (-1)
  let q := if (c.Kind = 2) then
      let q := (im_TableSplit p.Table c.At)
      let p := { p with Table := q.1 }
      let code := q.2
      (p, code)
    else if (c.Kind = 3) then
      let q := (im_TableMerge p.Table c.At)
      let p := { p with Table := q.1 }
      let code := q.2
      (p, code)
    else if (c.Kind = 4) then
      let q := (im_TableMove p.Table c.At c.To)
      let p := { p with Table := q.1 }
      let code := q.2
      (p, code)
    else if (c.Kind = 5) then
      let q := (im_TableJoin p.Table c.To)
      let p := { p with Table := q.1 }
      let code := q.2
      (p, code)
    else if (c.Kind = 6) then
      let q := (im_TableLeave p.Table c.To)
      let p := { p with Table := q.1 }
      let code := q.2
      (p, code)
    else if (c.Kind = 7) then
      let c1 := im_Plan_group p c.To
      let p := c1.2
      let code := c1.1
      (p, code)
    else 
      (p, code)
  let p := q.1
  let code := q.2
  (code, p)
def Sim_Plan_copied_c : Prop := ∀ (p : GPlan) (hp0 : p.Table.Ranges.length ≤ 2147483648) (hp1 : p.Seen.length ≤ 2147483648), Does Tryz.prog 96 0 [.agg [.lit (.int .i64 p.At), .lit (.int .i64 p.Table.Epoch), .lit (.int .i64 p.Table.Members), .r (.rd 3 encGTableRange p.Table.Ranges), .r (.rd 3 encGPlanSeen p.Seen), .lit (.int .i64 p.Old), .lit (.int .i64 p.New)]] [] (fun vv H2 => vv = .agg [.lit (.int .i64 (im_Plan_copied p).At), .lit (.int .i64 (im_Plan_copied p).Table.Epoch), .lit (.int .i64 (im_Plan_copied p).Table.Members), .sl 0 3 0 (im_Plan_copied p).Table.Ranges.length, .sl 1 3 0 (im_Plan_copied p).Seen.length, .lit (.int .i64 (im_Plan_copied p).Old), .lit (.int .i64 (im_Plan_copied p).New)] ∧ H2 = [some (.rows 3 (fun q => (encGTableRange q).map AV.r) (im_Plan_copied p).Table.Ranges), some (.rows 3 (fun q => (encGPlanSeen q).map AV.r) (im_Plan_copied p).Seen)])
def Sim_Plan_code_c : Prop := ∀ (p : GPlan) (c : GCmd) (hp0 : p.Table.Ranges.length ≤ 2147483648) (hp1 : p.Seen.length ≤ 2147483648), Does Tryz.prog 98 1 [.ptr 0 7 0 0, .agg [.lit (.int .i64 c.Kind), .lit (.int .i64 c.Session), .lit (.int .i64 c.Call), .lit (.int .i64 c.At), .lit (.int .i64 c.To), .lit (.string c.Text)]] [some (.cells [.lit (.int .i64 p.At), .lit (.int .i64 p.Table.Epoch), .lit (.int .i64 p.Table.Members), .sl 1 3 0 p.Table.Ranges.length, .sl 2 3 0 p.Seen.length, .lit (.int .i64 p.Old), .lit (.int .i64 p.New)]), some (.rows 3 (fun q => (encGTableRange q).map AV.r) p.Table.Ranges), some (.rows 3 (fun q => (encGPlanSeen q).map AV.r) p.Seen)] (fun vv H2 => vv = .lit (.int .i64 (im_Plan_code p c).1) ∧ H2 = [some (.cells [.lit (.int .i64 (im_Plan_code p c).2.At), .lit (.int .i64 (im_Plan_code p c).2.Table.Epoch), .lit (.int .i64 (im_Plan_code p c).2.Table.Members), .sl 1 3 0 (im_Plan_code p c).2.Table.Ranges.length, .sl 2 3 0 (im_Plan_code p c).2.Seen.length, .lit (.int .i64 (im_Plan_code p c).2.Old), .lit (.int .i64 (im_Plan_code p c).2.New)]), some (.rows 3 (fun q => (encGTableRange q).map AV.r) (im_Plan_code p c).2.Table.Ranges), some (.rows 3 (fun q => (encGPlanSeen q).map AV.r) (im_Plan_code p c).2.Seen)])
set_option maxRecDepth 10000 in
set_option maxHeartbeats 4000000 in
theorem layH31 : (Sim_Plan_copied_c) ∧ (Sim_Plan_code_c) := by
  refine ⟨fun p hp0 hp1 => have t0 := tg 0; Does.goR Tryz.func96 Tryz.ntmps96 Tryz.results96 rfl (Nat.zero_le _) rfl ?_,
    fun p c hp0 hp1 => have t1 := tg 1; Does.goR Tryz.func98 Tryz.ntmps98 Tryz.results98 rfl (by simp) rfl ?_⟩
  all_goals (
  simp only [argR, Nat.reduceAdd]
  repeat' (first
    | (refine Tri.regSeq fun K hK => RegS.run ?_)
    | (refine Tri.reg fun K hK => RegS.run ?_)
    | (guard_hyp t0;(first|(refine Tri.heavySeqN 1 rfl mixedP [1] [7,9] [(0,0),(3,0),(1,1),(4,1),(2,2),(6,0),(5,2),(7,2),(8,0),(9,2)] (by kernel_rfl) fun K hK => ?_;simp only [ballOf,ballX,cellIds,Heap.at,List.getD_cons_zero,List.getD_cons_succ,List.nil_append,List.cons_append,idOf,z1,z2,Nat.reduceEqDiff,Nat.reduceLT,not_false_eq_true])|(refine Tri.heavyN 1 rfl mixedP [1] [7,9] [(0,0),(3,0),(1,1),(4,1),(2,2),(6,0),(5,2),(7,2),(8,0),(9,2)] (by kernel_rfl) fun K hK => ?_;simp only [ballOf,ballX,cellIds,Heap.at,List.getD_cons_zero,List.getD_cons_succ,List.nil_append,List.cons_append,idOf,z1,z2,Nat.reduceEqDiff,Nat.reduceLT,not_false_eq_true]) ))
    | (guard_hyp t1;(first|(refine Tri.heavySeqN 4 rfl mixedP [0,3] [7,13] [(0,0),(1,0),(2,0),(3,0),(5,0),(4,1),(6,1),(7,2),(8,0),(9,0),(10,0),(11,0),(12,0),(13,2),(14,0)] (by kernel_rfl) fun K hK => ?_;simp only [ballOf,ballX,cellIds,Heap.at,List.getD_cons_zero,List.getD_cons_succ,List.nil_append,List.cons_append,idOf,z1,z2,Nat.reduceEqDiff,Nat.reduceLT,not_false_eq_true])|(refine Tri.heavyN 4 rfl mixedP [0,3] [7,13] [(0,0),(1,0),(2,0),(3,0),(5,0),(4,1),(6,1),(7,2),(8,0),(9,0),(10,0),(11,0),(12,0),(13,2),(14,0)] (by kernel_rfl) fun K hK => ?_;simp only [ballOf,ballX,cellIds,Heap.at,List.getD_cons_zero,List.getD_cons_succ,List.nil_append,List.cons_append,idOf,z1,z2,Nat.reduceEqDiff,Nat.reduceLT,not_false_eq_true])|(refine Tri.heavySeqN 6 rfl mixedP [0,3] [7,13] [(0,0),(1,0),(2,0),(3,0),(5,0),(4,1),(6,1),(7,2),(8,0),(9,0),(10,0),(11,0),(12,0),(13,2),(14,0)] (by kernel_rfl) fun K hK => ?_;simp only [ballOf,ballX,cellIds,Heap.at,List.getD_cons_zero,List.getD_cons_succ,List.nil_append,List.cons_append,idOf,z1,z2,Nat.reduceEqDiff,Nat.reduceLT,not_false_eq_true])|(refine Tri.heavyN 6 rfl mixedP [0,3] [7,13] [(0,0),(1,0),(2,0),(3,0),(5,0),(4,1),(6,1),(7,2),(8,0),(9,0),(10,0),(11,0),(12,0),(13,2),(14,0)] (by kernel_rfl) fun K hK => ?_;simp only [ballOf,ballX,cellIds,Heap.at,List.getD_cons_zero,List.getD_cons_succ,List.nil_append,List.cons_append,idOf,z1,z2,Nat.reduceEqDiff,Nat.reduceLT,not_false_eq_true])|(refine Tri.heavySeqN 8 rfl mixedP [0,3] [9,15] [(0,0),(1,0),(2,0),(3,0),(5,0),(7,0),(4,1),(6,1),(8,1),(9,2),(10,0),(11,0),(12,0),(13,0),(14,0),(15,2),(16,0)] (by kernel_rfl) fun K hK => ?_;simp only [ballOf,ballX,cellIds,Heap.at,List.getD_cons_zero,List.getD_cons_succ,List.nil_append,List.cons_append,idOf,z1,z2,Nat.reduceEqDiff,Nat.reduceLT,not_false_eq_true])|(refine Tri.heavyN 8 rfl mixedP [0,3] [9,15] [(0,0),(1,0),(2,0),(3,0),(5,0),(7,0),(4,1),(6,1),(8,1),(9,2),(10,0),(11,0),(12,0),(13,0),(14,0),(15,2),(16,0)] (by kernel_rfl) fun K hK => ?_;simp only [ballOf,ballX,cellIds,Heap.at,List.getD_cons_zero,List.getD_cons_succ,List.nil_append,List.cons_append,idOf,z1,z2,Nat.reduceEqDiff,Nat.reduceLT,not_false_eq_true])|(refine Tri.heavySeqN 10 rfl mixedP [0,3] [7,13] [(0,0),(1,0),(2,0),(3,0),(5,0),(4,1),(6,1),(7,2),(8,0),(9,0),(10,0),(11,0),(12,0),(13,2),(14,0)] (by kernel_rfl) fun K hK => ?_;simp only [ballOf,ballX,cellIds,Heap.at,List.getD_cons_zero,List.getD_cons_succ,List.nil_append,List.cons_append,idOf,z1,z2,Nat.reduceEqDiff,Nat.reduceLT,not_false_eq_true])|(refine Tri.heavyN 10 rfl mixedP [0,3] [7,13] [(0,0),(1,0),(2,0),(3,0),(5,0),(4,1),(6,1),(7,2),(8,0),(9,0),(10,0),(11,0),(12,0),(13,2),(14,0)] (by kernel_rfl) fun K hK => ?_;simp only [ballOf,ballX,cellIds,Heap.at,List.getD_cons_zero,List.getD_cons_succ,List.nil_append,List.cons_append,idOf,z1,z2,Nat.reduceEqDiff,Nat.reduceLT,not_false_eq_true])|(refine Tri.heavySeqN 12 rfl mixedP [0,3] [7,13] [(0,0),(1,0),(2,0),(3,0),(5,0),(4,1),(6,1),(7,2),(8,0),(9,0),(10,0),(11,0),(12,0),(13,2),(14,0)] (by kernel_rfl) fun K hK => ?_;simp only [ballOf,ballX,cellIds,Heap.at,List.getD_cons_zero,List.getD_cons_succ,List.nil_append,List.cons_append,idOf,z1,z2,Nat.reduceEqDiff,Nat.reduceLT,not_false_eq_true])|(refine Tri.heavyN 12 rfl mixedP [0,3] [7,13] [(0,0),(1,0),(2,0),(3,0),(5,0),(4,1),(6,1),(7,2),(8,0),(9,0),(10,0),(11,0),(12,0),(13,2),(14,0)] (by kernel_rfl) fun K hK => ?_;simp only [ballOf,ballX,cellIds,Heap.at,List.getD_cons_zero,List.getD_cons_succ,List.nil_append,List.cons_append,idOf,z1,z2,Nat.reduceEqDiff,Nat.reduceLT,not_false_eq_true]) ))
    | (refine RegS.nil (hK _ _ ?_);clear hK K)
    | (refine QuietS.nil (hK _ _ ?_);clear hK K)
    | ((first|refine RegS.step fun K1 h1 => ?_|refine QuietS.step fun K1 h1 => ?_);simp only [go_sem,reduceCtorEq,Nat.reduceAdd,Nat.reduceSub,Nat.reduceMul,Nat.reduceLeDiff,Nat.reduceLT,Nat.reduceEqDiff])
    | (refine DrawS.nil (hK _ _ ?_);clear hK K)
    | (refine DrawS.step fun K1 h1 => ?_;simp only [go_sem,reduceCtorEq,Nat.reduceAdd,Nat.reduceSub,Nat.reduceMul,Nat.reduceLeDiff,Nat.reduceLT,Nat.reduceEqDiff])
    | (with_reducible refine GTableRange_ex _ _ _ ?_)
    | (with_reducible refine GPlanSeen_ex _ _ _ ?_)
    | (refine h1 _ _ ?_;clear h1 K1)
    | refine And.intro ?_ ?_
    | ((first
      | (refine z45 [] [] 0 (im_Table_copied_c ⟨?_,?_,?_⟩ ?_) (by simp) ?_ ?_ ?_ rfl rfl ?_ ?_;rotate_left 7)
      | (refine z45 [] [] 0 (slices_Clone_PlanSeen_c ?_ ?_) (by simp) ?_ ?_ ?_ rfl rfl ?_ ?_;rotate_left 5)
      | (refine z45 [] [] 0 (im_TableSplit_c ⟨?_,?_,?_⟩ ?_ ?_) (by simp) ?_ ?_ ?_ rfl rfl ?_ ?_;rotate_left 8)
      | (refine z45 [] [] 0 (im_TableMerge_c ⟨?_,?_,?_⟩ ?_ ?_) (by simp) ?_ ?_ ?_ rfl rfl ?_ ?_;rotate_left 8)
      | (refine z45 [] [] 0 (im_TableMove_c ⟨?_,?_,?_⟩ ?_ ?_ ?_) (by simp) ?_ ?_ ?_ rfl rfl ?_ ?_;rotate_left 9)
      | (refine z45 [] [] 0 (im_TableJoin_c ⟨?_,?_,?_⟩ ?_ ?_) (by simp) ?_ ?_ ?_ rfl rfl ?_ ?_;rotate_left 8)
      | (refine z45 [] [] 0 (im_TableLeave_c ⟨?_,?_,?_⟩ ?_ ?_) (by simp) ?_ ?_ ?_ rfl rfl ?_ ?_;rotate_left 8)
      | (refine z45 [?_,?_,?_] [] 1 (im_Plan_group_c ⟨?_,⟨?_,?_,?_⟩,?_,?_,?_⟩ ?_ ?_ ?_) (by simp) ?_ ?_ ?_ rfl rfl ?_ ?_;rotate_left 16)
      ); (focus ((repeat' (first | simp only [z1, z2, z3, Nat.reduceEqDiff, Nat.reduceLT, not_false_eq_true] | exact z28 | refine z29 ?_ ?_ | exact z31 | refine z32 ?_ ?_ | refine z30 ?_ | exact z33 | refine z34 rfl ?_ ?_ | refine z35 ?_ | exact z13 | exact z14 | exact z15 | exact z16 | refine z17 ?_ | refine z18 rfl ?_ | refine z19 rfl ?_ ?_ | (show lτ _ _ = some _; exact rfl) | exact z20 rfl rfl | refine z20 rfl ?_ | refine z21 ?_ | refine z23 ?_ | exact z24 | refine z25 ?_ rfl rfl ?_ | refine z22 ?_ | refine z26 ?_ rfl rfl ?_ ?_ | refine z27 ?_ rfl rfl ?_ ?_ ?_ | exact True.intro | exact z4 rfl | exact z5 | exact z6 | exact z7 | exact z8 | exact z9 | exact z10 | refine z36 ?_ | refine z37 rfl ?_ | exact z38 | exact z39 | refine z40 (xs := ?_) (ys := ?_) ?_ ?_ | refine z41 (xs := ?_) (ys := ?_) ?_ ?_ ?_ ?_ | refine z42 (xs := ?_) ?_ | refine z43 (xs := ?_) ?_ | refine z44 (x := ?_) (xs := ?_) ?_ ?_ | refine RowsAre.rep (x := ?_) (n := ?_) ?_ | (with_reducible show RowIs _ _ _; first | exact GTable_row _ | exact GTable_mk _ _ _ | exact GTableRange_row _ | exact GTableRange_mk _ _ _ | exact GPlan_row _ | exact GPlan_mk _ _ _ _ _ _ _ | exact GPlanSeen_row _ | exact GPlanSeen_mk _ _ _ | exact GCmd_row _ | exact GCmd_mk _ _ _ _ _ _) | with_reducible exact rfl | (refine z11 ?_; omega) | (refine z12 ?_; omega) | simp only [List.length_append, List.length_map, List.length_cons, List.length_nil, List.length_set, List.length_replicate])); (all_goals (fail_if_success (with_reducible show FZ _ _))); (all_goals (fail_if_success (with_reducible show List.contains _ _ = true))); (all_goals (fail_if_success (with_reducible show False))); (all_goals (fail_if_success (with_reducible show VSub _ _ _ _ _ _))))); rotate_right 1; (focus ((repeat' (first | simp only [z1, z2, z3, Nat.reduceEqDiff, Nat.reduceLT, not_false_eq_true] | exact z28 | refine z29 ?_ ?_ | exact z31 | refine z32 ?_ ?_ | refine z30 ?_ | exact z33 | refine z34 rfl ?_ ?_ | refine z35 ?_ | exact z13 | exact z14 | exact z15 | exact z16 | refine z17 ?_ | refine z18 rfl ?_ | refine z19 rfl ?_ ?_ | (show lτ _ _ = some _; exact rfl) | exact z20 rfl rfl | refine z20 rfl ?_ | refine z21 ?_ | refine z23 ?_ | exact z24 | refine z25 ?_ rfl rfl ?_ | refine z22 ?_ | refine z26 ?_ rfl rfl ?_ ?_ | refine z27 ?_ rfl rfl ?_ ?_ ?_ | exact True.intro | exact z4 rfl | exact z5 | exact z6 | exact z7 | exact z8 | exact z9 | exact z10 | refine z36 ?_ | refine z37 rfl ?_ | exact z38 | exact z39 | refine z40 (xs := ?_) (ys := ?_) ?_ ?_ | refine z41 (xs := ?_) (ys := ?_) ?_ ?_ ?_ ?_ | refine z42 (xs := ?_) ?_ | refine z43 (xs := ?_) ?_ | refine z44 (x := ?_) (xs := ?_) ?_ ?_ | refine RowsAre.rep (x := ?_) (n := ?_) ?_ | (with_reducible show RowIs _ _ _; first | exact GTable_row _ | exact GTable_mk _ _ _ | exact GTableRange_row _ | exact GTableRange_mk _ _ _ | exact GPlan_row _ | exact GPlan_mk _ _ _ _ _ _ _ | exact GPlanSeen_row _ | exact GPlanSeen_mk _ _ _ | exact GCmd_row _ | exact GCmd_mk _ _ _ _ _ _) | with_reducible exact rfl | (refine z11 ?_; omega) | (refine z12 ?_; omega) | simp only [List.length_append, List.length_map, List.length_cons, List.length_nil, List.length_set, List.length_replicate])); (all_goals (fail_if_success (with_reducible show FZ _ _))); (all_goals (fail_if_success (with_reducible show List.contains _ _ = true))); (all_goals (fail_if_success (with_reducible show False))); (all_goals (fail_if_success (with_reducible show VSub _ _ _ _ _ _))); (all_goals (fail_if_success (with_reducible show HTell _ _ _ _ _ _))))); (all_goals (try (with_reducible refine z48 ?_); exact rfl)); (all_goals (try (with_reducible refine z47 ?_); try with_reducible exact rfl)); any_goals (rintro _ _ ⟨rfl, rfl⟩ _; simp only [go_sem, reduceCtorEq, Nat.reduceAdd, Nat.reduceSub, Nat.reduceMul, Nat.reduceLeDiff, Nat.reduceLT, Nat.reduceEqDiff]))
    | ((first
      | (refine z46 [] [?_] 0 (im_Table_copied_c ⟨?_,?_,?_⟩ ?_) (by simp) ?_ ?_ ?_ rfl rfl ?_ (freeP (by simp [AFree,AFreeL]) (HFree.cons (BFree.rows GTableRange_lit) HFree.nil)) ?_;rotate_left 8)
      | (refine z46 [] [?_] 0 (slices_Clone_PlanSeen_c ?_ ?_) (by simp) ?_ ?_ ?_ rfl rfl ?_ (freeP (by simp [AFree,AFreeL]) (HFree.cons (BFree.rows GPlanSeen_lit) HFree.nil)) ?_;rotate_left 6)
      | (refine z46 [] [?_] 0 (im_TableSplit_c ⟨?_,?_,?_⟩ ?_ ?_) (by simp) ?_ ?_ ?_ rfl rfl ?_ (freeP (by simp [AFree,AFreeL]) (HFree.cons (BFree.rows GTableRange_lit) HFree.nil)) ?_;rotate_left 9)
      | (refine z46 [] [?_] 0 (im_TableMerge_c ⟨?_,?_,?_⟩ ?_ ?_) (by simp) ?_ ?_ ?_ rfl rfl ?_ (freeP (by simp [AFree,AFreeL]) (HFree.cons (BFree.rows GTableRange_lit) HFree.nil)) ?_;rotate_left 9)
      | (refine z46 [] [?_] 0 (im_TableMove_c ⟨?_,?_,?_⟩ ?_ ?_ ?_) (by simp) ?_ ?_ ?_ rfl rfl ?_ (freeP (by simp [AFree,AFreeL]) (HFree.cons (BFree.rows GTableRange_lit) HFree.nil)) ?_;rotate_left 10)
      | (refine z46 [] [?_] 0 (im_TableJoin_c ⟨?_,?_,?_⟩ ?_ ?_) (by simp) ?_ ?_ ?_ rfl rfl ?_ (freeP (by simp [AFree,AFreeL]) (HFree.cons (BFree.rows GTableRange_lit) HFree.nil)) ?_;rotate_left 9)
      | (refine z46 [] [?_] 0 (im_TableLeave_c ⟨?_,?_,?_⟩ ?_ ?_) (by simp) ?_ ?_ ?_ rfl rfl ?_ (freeP (by simp [AFree,AFreeL]) (HFree.cons (BFree.rows GTableRange_lit) HFree.nil)) ?_;rotate_left 9)
      ); (focus ((repeat' (first | simp only [z1, z2, z3, Nat.reduceEqDiff, Nat.reduceLT, not_false_eq_true] | exact z28 | refine z29 ?_ ?_ | exact z31 | refine z32 ?_ ?_ | refine z30 ?_ | exact z33 | refine z34 rfl ?_ ?_ | refine z35 ?_ | exact z13 | exact z14 | exact z15 | exact z16 | refine z17 ?_ | refine z18 rfl ?_ | refine z19 rfl ?_ ?_ | (show lτ _ _ = some _; exact rfl) | exact z20 rfl rfl | refine z20 rfl ?_ | refine z21 ?_ | refine z23 ?_ | exact z24 | refine z25 ?_ rfl rfl ?_ | refine z22 ?_ | refine z26 ?_ rfl rfl ?_ ?_ | refine z27 ?_ rfl rfl ?_ ?_ ?_ | exact True.intro | exact z4 rfl | exact z5 | exact z6 | exact z7 | exact z8 | exact z9 | exact z10 | refine z36 ?_ | refine z37 rfl ?_ | exact z38 | exact z39 | refine z40 (xs := ?_) (ys := ?_) ?_ ?_ | refine z41 (xs := ?_) (ys := ?_) ?_ ?_ ?_ ?_ | refine z42 (xs := ?_) ?_ | refine z43 (xs := ?_) ?_ | refine z44 (x := ?_) (xs := ?_) ?_ ?_ | refine RowsAre.rep (x := ?_) (n := ?_) ?_ | (with_reducible show RowIs _ _ _; first | exact GTable_row _ | exact GTable_mk _ _ _ | exact GTableRange_row _ | exact GTableRange_mk _ _ _ | exact GPlan_row _ | exact GPlan_mk _ _ _ _ _ _ _ | exact GPlanSeen_row _ | exact GPlanSeen_mk _ _ _ | exact GCmd_row _ | exact GCmd_mk _ _ _ _ _ _) | with_reducible exact rfl | (refine z11 ?_; omega) | (refine z12 ?_; omega) | simp only [List.length_append, List.length_map, List.length_cons, List.length_nil, List.length_set, List.length_replicate])); (all_goals (fail_if_success (with_reducible show FZ _ _))); (all_goals (fail_if_success (with_reducible show List.contains _ _ = true))); (all_goals (fail_if_success (with_reducible show False))); (all_goals (fail_if_success (with_reducible show VSub _ _ _ _ _ _))))); rotate_right 1; (focus ((repeat' (first | simp only [z1, z2, z3, Nat.reduceEqDiff, Nat.reduceLT, not_false_eq_true] | exact z28 | refine z29 ?_ ?_ | exact z31 | refine z32 ?_ ?_ | refine z30 ?_ | exact z33 | refine z34 rfl ?_ ?_ | refine z35 ?_ | exact z13 | exact z14 | exact z15 | exact z16 | refine z17 ?_ | refine z18 rfl ?_ | refine z19 rfl ?_ ?_ | (show lτ _ _ = some _; exact rfl) | exact z20 rfl rfl | refine z20 rfl ?_ | refine z21 ?_ | refine z23 ?_ | exact z24 | refine z25 ?_ rfl rfl ?_ | refine z22 ?_ | refine z26 ?_ rfl rfl ?_ ?_ | refine z27 ?_ rfl rfl ?_ ?_ ?_ | exact True.intro | exact z4 rfl | exact z5 | exact z6 | exact z7 | exact z8 | exact z9 | exact z10 | refine z36 ?_ | refine z37 rfl ?_ | exact z38 | exact z39 | refine z40 (xs := ?_) (ys := ?_) ?_ ?_ | refine z41 (xs := ?_) (ys := ?_) ?_ ?_ ?_ ?_ | refine z42 (xs := ?_) ?_ | refine z43 (xs := ?_) ?_ | refine z44 (x := ?_) (xs := ?_) ?_ ?_ | refine RowsAre.rep (x := ?_) (n := ?_) ?_ | (with_reducible show RowIs _ _ _; first | exact GTable_row _ | exact GTable_mk _ _ _ | exact GTableRange_row _ | exact GTableRange_mk _ _ _ | exact GPlan_row _ | exact GPlan_mk _ _ _ _ _ _ _ | exact GPlanSeen_row _ | exact GPlanSeen_mk _ _ _ | exact GCmd_row _ | exact GCmd_mk _ _ _ _ _ _) | with_reducible exact rfl | (refine z11 ?_; omega) | (refine z12 ?_; omega) | simp only [List.length_append, List.length_map, List.length_cons, List.length_nil, List.length_set, List.length_replicate])); (all_goals (fail_if_success (with_reducible show FZ _ _))); (all_goals (fail_if_success (with_reducible show List.contains _ _ = true))); (all_goals (fail_if_success (with_reducible show False))); (all_goals (fail_if_success (with_reducible show VSub _ _ _ _ _ _))); (all_goals (fail_if_success (with_reducible show HTell _ _ _ _ _ _))))); (all_goals (try (with_reducible refine z48 ?_); exact rfl)); (all_goals (try (with_reducible refine z47 ?_); try with_reducible exact rfl)); any_goals (rintro _ _ ⟨rfl, rfl⟩ _; simp only [go_sem, reduceCtorEq, Nat.reduceAdd, Nat.reduceSub, Nat.reduceMul, Nat.reduceLeDiff, Nat.reduceLT, Nat.reduceEqDiff]))
    | ((first
      | (refine z45 [] [?_] 0 (im_Table_copied_c ⟨?_,?_,?_⟩ ?_) (by simp) ?_ ?_ ?_ rfl rfl ?_ ?_;rotate_left 8)
      | (refine z45 [] [?_] 0 (slices_Clone_PlanSeen_c ?_ ?_) (by simp) ?_ ?_ ?_ rfl rfl ?_ ?_;rotate_left 6)
      | (refine z45 [] [?_] 0 (im_TableSplit_c ⟨?_,?_,?_⟩ ?_ ?_) (by simp) ?_ ?_ ?_ rfl rfl ?_ ?_;rotate_left 9)
      | (refine z45 [] [?_] 0 (im_TableMerge_c ⟨?_,?_,?_⟩ ?_ ?_) (by simp) ?_ ?_ ?_ rfl rfl ?_ ?_;rotate_left 9)
      | (refine z45 [] [?_] 0 (im_TableMove_c ⟨?_,?_,?_⟩ ?_ ?_ ?_) (by simp) ?_ ?_ ?_ rfl rfl ?_ ?_;rotate_left 10)
      | (refine z45 [] [?_] 0 (im_TableJoin_c ⟨?_,?_,?_⟩ ?_ ?_) (by simp) ?_ ?_ ?_ rfl rfl ?_ ?_;rotate_left 9)
      | (refine z45 [] [?_] 0 (im_TableLeave_c ⟨?_,?_,?_⟩ ?_ ?_) (by simp) ?_ ?_ ?_ rfl rfl ?_ ?_;rotate_left 9)
      ); (focus ((repeat' (first | simp only [z1, z2, z3, Nat.reduceEqDiff, Nat.reduceLT, not_false_eq_true] | exact z28 | refine z29 ?_ ?_ | exact z31 | refine z32 ?_ ?_ | refine z30 ?_ | exact z33 | refine z34 rfl ?_ ?_ | refine z35 ?_ | exact z13 | exact z14 | exact z15 | exact z16 | refine z17 ?_ | refine z18 rfl ?_ | refine z19 rfl ?_ ?_ | (show lτ _ _ = some _; exact rfl) | exact z20 rfl rfl | refine z20 rfl ?_ | refine z21 ?_ | refine z23 ?_ | exact z24 | refine z25 ?_ rfl rfl ?_ | refine z22 ?_ | refine z26 ?_ rfl rfl ?_ ?_ | refine z27 ?_ rfl rfl ?_ ?_ ?_ | exact True.intro | exact z4 rfl | exact z5 | exact z6 | exact z7 | exact z8 | exact z9 | exact z10 | refine z36 ?_ | refine z37 rfl ?_ | exact z38 | exact z39 | refine z40 (xs := ?_) (ys := ?_) ?_ ?_ | refine z41 (xs := ?_) (ys := ?_) ?_ ?_ ?_ ?_ | refine z42 (xs := ?_) ?_ | refine z43 (xs := ?_) ?_ | refine z44 (x := ?_) (xs := ?_) ?_ ?_ | refine RowsAre.rep (x := ?_) (n := ?_) ?_ | (with_reducible show RowIs _ _ _; first | exact GTable_row _ | exact GTable_mk _ _ _ | exact GTableRange_row _ | exact GTableRange_mk _ _ _ | exact GPlan_row _ | exact GPlan_mk _ _ _ _ _ _ _ | exact GPlanSeen_row _ | exact GPlanSeen_mk _ _ _ | exact GCmd_row _ | exact GCmd_mk _ _ _ _ _ _) | with_reducible exact rfl | (refine z11 ?_; omega) | (refine z12 ?_; omega) | simp only [List.length_append, List.length_map, List.length_cons, List.length_nil, List.length_set, List.length_replicate])); (all_goals (fail_if_success (with_reducible show FZ _ _))); (all_goals (fail_if_success (with_reducible show List.contains _ _ = true))); (all_goals (fail_if_success (with_reducible show False))); (all_goals (fail_if_success (with_reducible show VSub _ _ _ _ _ _))))); rotate_right 1; (focus ((repeat' (first | simp only [z1, z2, z3, Nat.reduceEqDiff, Nat.reduceLT, not_false_eq_true] | exact z28 | refine z29 ?_ ?_ | exact z31 | refine z32 ?_ ?_ | refine z30 ?_ | exact z33 | refine z34 rfl ?_ ?_ | refine z35 ?_ | exact z13 | exact z14 | exact z15 | exact z16 | refine z17 ?_ | refine z18 rfl ?_ | refine z19 rfl ?_ ?_ | (show lτ _ _ = some _; exact rfl) | exact z20 rfl rfl | refine z20 rfl ?_ | refine z21 ?_ | refine z23 ?_ | exact z24 | refine z25 ?_ rfl rfl ?_ | refine z22 ?_ | refine z26 ?_ rfl rfl ?_ ?_ | refine z27 ?_ rfl rfl ?_ ?_ ?_ | exact True.intro | exact z4 rfl | exact z5 | exact z6 | exact z7 | exact z8 | exact z9 | exact z10 | refine z36 ?_ | refine z37 rfl ?_ | exact z38 | exact z39 | refine z40 (xs := ?_) (ys := ?_) ?_ ?_ | refine z41 (xs := ?_) (ys := ?_) ?_ ?_ ?_ ?_ | refine z42 (xs := ?_) ?_ | refine z43 (xs := ?_) ?_ | refine z44 (x := ?_) (xs := ?_) ?_ ?_ | refine RowsAre.rep (x := ?_) (n := ?_) ?_ | (with_reducible show RowIs _ _ _; first | exact GTable_row _ | exact GTable_mk _ _ _ | exact GTableRange_row _ | exact GTableRange_mk _ _ _ | exact GPlan_row _ | exact GPlan_mk _ _ _ _ _ _ _ | exact GPlanSeen_row _ | exact GPlanSeen_mk _ _ _ | exact GCmd_row _ | exact GCmd_mk _ _ _ _ _ _) | with_reducible exact rfl | (refine z11 ?_; omega) | (refine z12 ?_; omega) | simp only [List.length_append, List.length_map, List.length_cons, List.length_nil, List.length_set, List.length_replicate])); (all_goals (fail_if_success (with_reducible show FZ _ _))); (all_goals (fail_if_success (with_reducible show List.contains _ _ = true))); (all_goals (fail_if_success (with_reducible show False))); (all_goals (fail_if_success (with_reducible show VSub _ _ _ _ _ _))); (all_goals (fail_if_success (with_reducible show HTell _ _ _ _ _ _))))); (all_goals (try (with_reducible refine z48 ?_); exact rfl)); (all_goals (try (with_reducible refine z47 ?_); try with_reducible exact rfl)); any_goals (rintro _ _ ⟨rfl, rfl⟩ _; simp only [go_sem, reduceCtorEq, Nat.reduceAdd, Nat.reduceSub, Nat.reduceMul, Nat.reduceLeDiff, Nat.reduceLT, Nat.reduceEqDiff]))
    | omega
    | (refine Tri.cond (b := ?_) ?_ ?_ ?_;rotate_left 1;focus (simp only [ev,z1,z2,Nat.reduceEqDiff,Nat.reduceLT,not_false_eq_true];exact rfl))
    | (intro h;(try simp only [decide_eq_true_eq,decide_eq_false_iff_not,Int.not_lt,Int.not_le,beq_iff_eq,bne_iff_ne,beq_eq_false_iff_ne,bne_eq_false_iff_eq,ne_eq,Bool.not_eq_true',Bool.not_eq_false',Decidable.not_not] at h);(try contradiction))
    | (refine Tri.skip ?_;try change Tri _ _ _ _ _ _)
    | (refine Tri.exit ?_;try change Tri _ _ _ _ _ _)
    | refine Tri.ret ?_
    | refine Tri.block ?_
    | refine Tri.seq ?_
    | ((first
      | (guard_hyp t0;refine EndK.eqq (p := 0) (vs := ?_) (f := fun x : GPlan => .agg [.lit (.int .i64 x.At),.lit (.int .i64 x.Table.Epoch),.lit (.int .i64 x.Table.Members),.sl 0 3 0 x.Table.Ranges.length,.sl 1 3 0 x.Seen.length,.lit (.int .i64 x.Old),.lit (.int .i64 x.New)]) (g := fun x : GPlan => [some (.rows 3 (fun q => (encGTableRange q).map AV.r) x.Table.Ranges),some (.rows 3 (fun q => (encGPlanSeen q).map AV.r) x.Seen)]) ⟨?_,⟨?_,?_,?_⟩,?_,?_,?_⟩ [?_,?_] (by first|exact .inr rfl|exact .inl rfl) ?_ ?_ ?_ (by simp) ?_ ?_ ?_;rotate_left 10)
      | (guard_hyp t1;refine EndK.eqq (p := 1) (vs := ?_) (f := fun x : Int × GPlan => .lit (.int .i64 x.1)) (g := fun x : Int × GPlan => [some (.cells [.lit (.int .i64 x.2.At),.lit (.int .i64 x.2.Table.Epoch),.lit (.int .i64 x.2.Table.Members),.sl 1 3 0 x.2.Table.Ranges.length,.sl 2 3 0 x.2.Seen.length,.lit (.int .i64 x.2.Old),.lit (.int .i64 x.2.New)]),some (.rows 3 (fun q => (encGTableRange q).map AV.r) x.2.Table.Ranges),some (.rows 3 (fun q => (encGPlanSeen q).map AV.r) x.2.Seen)]) (?_,⟨?_,⟨?_,?_,?_⟩,?_,?_,?_⟩) [some 0,?_,?_] (by first|exact .inr rfl|exact .inl rfl) ?_ ?_ ?_ (by simp) ?_ ?_ ?_;rotate_left 11)
      ); (focus (simp only [go_sem, reduceCtorEq, Nat.reduceAdd, Nat.reduceSub, Nat.reduceMul, Nat.reduceLeDiff, Nat.reduceLT, Nat.reduceEqDiff]; exact rfl)); rotate_left 3; (focus (repeat' (first | simp only [z1, z2, z3, Nat.reduceEqDiff, Nat.reduceLT, not_false_eq_true] | exact z28 | refine z29 ?_ ?_ | exact z31 | refine z32 ?_ ?_ | refine z30 ?_ | exact z33 | refine z34 rfl ?_ ?_ | refine z35 ?_ | exact z13 | exact z14 | exact z15 | exact z16 | refine z17 ?_ | refine z18 rfl ?_ | refine z19 rfl ?_ ?_ | (show lτ _ _ = some _; exact rfl) | exact z20 rfl rfl | refine z20 rfl ?_ | refine z21 ?_ | refine z23 ?_ | exact z24 | refine z25 ?_ rfl rfl ?_ | refine z22 ?_ | refine z26 ?_ rfl rfl ?_ ?_ | refine z27 ?_ rfl rfl ?_ ?_ ?_ | exact True.intro | exact z4 rfl | exact z5 | exact z6 | exact z7 | exact z8 | exact z9 | exact z10 | refine z36 ?_ | refine z37 rfl ?_ | exact z38 | exact z39 | refine z40 (xs := ?_) (ys := ?_) ?_ ?_ | refine z41 (xs := ?_) (ys := ?_) ?_ ?_ ?_ ?_ | refine z42 (xs := ?_) ?_ | refine z43 (xs := ?_) ?_ | refine z44 (x := ?_) (xs := ?_) ?_ ?_ | refine RowsAre.rep (x := ?_) (n := ?_) ?_ | (with_reducible show RowIs _ _ _; first | exact GTable_row _ | exact GTable_mk _ _ _ | exact GTableRange_row _ | exact GTableRange_mk _ _ _ | exact GPlan_row _ | exact GPlan_mk _ _ _ _ _ _ _ | exact GPlanSeen_row _ | exact GPlanSeen_mk _ _ _ | exact GCmd_row _ | exact GCmd_mk _ _ _ _ _ _) | with_reducible exact rfl | (refine z11 ?_; omega) | (refine z12 ?_; omega) | simp only [List.length_append, List.length_map, List.length_cons, List.length_nil, List.length_set, List.length_replicate]))); rotate_right 1; (focus (repeat' (first | simp only [z1, z2, z3, Nat.reduceEqDiff, Nat.reduceLT, not_false_eq_true] | exact z28 | refine z29 ?_ ?_ | exact z31 | refine z32 ?_ ?_ | refine z30 ?_ | exact z33 | refine z34 rfl ?_ ?_ | refine z35 ?_ | exact z13 | exact z14 | exact z15 | exact z16 | refine z17 ?_ | refine z18 rfl ?_ | refine z19 rfl ?_ ?_ | (show lτ _ _ = some _; exact rfl) | exact z20 rfl rfl | refine z20 rfl ?_ | refine z21 ?_ | refine z23 ?_ | exact z24 | refine z25 ?_ rfl rfl ?_ | refine z22 ?_ | refine z26 ?_ rfl rfl ?_ ?_ | refine z27 ?_ rfl rfl ?_ ?_ ?_ | exact True.intro | exact z4 rfl | exact z5 | exact z6 | exact z7 | exact z8 | exact z9 | exact z10 | refine z36 ?_ | refine z37 rfl ?_ | exact z38 | exact z39 | refine z40 (xs := ?_) (ys := ?_) ?_ ?_ | refine z41 (xs := ?_) (ys := ?_) ?_ ?_ ?_ ?_ | refine z42 (xs := ?_) ?_ | refine z43 (xs := ?_) ?_ | refine z44 (x := ?_) (xs := ?_) ?_ ?_ | refine RowsAre.rep (x := ?_) (n := ?_) ?_ | (with_reducible show RowIs _ _ _; first | exact GTable_row _ | exact GTable_mk _ _ _ | exact GTableRange_row _ | exact GTableRange_mk _ _ _ | exact GPlan_row _ | exact GPlan_mk _ _ _ _ _ _ _ | exact GPlanSeen_row _ | exact GPlanSeen_mk _ _ _ | exact GCmd_row _ | exact GCmd_mk _ _ _ _ _ _) | with_reducible exact rfl | (refine z11 ?_; omega) | (refine z12 ?_; omega) | simp only [List.length_append, List.length_map, List.length_cons, List.length_nil, List.length_set, List.length_replicate]))); (all_goals (try (with_reducible refine z47 ?_); try with_reducible exact rfl)); (all_goals (try (with_reducible refine z48 ?_); exact rfl))))
  all_goals (try clear h1); all_goals (try clear K1); all_goals (try clear hK); all_goals (try clear K); all_goals (try dsimp only); all_goals (try simp only [Bool.not_eq_false', Bool.not_eq_true', decide_eq_true_eq, decide_eq_false_iff_not] at *); all_goals (try simp only [GTable_eta, GTableRange_eta, GPlan_eta, GPlanSeen_eta, GCmd_eta] at *)
  all_goals first
    | omega
    | (simp only [List.length_cons,List.length_nil,Nat.reduceAdd];done)
    | (simp only [List.length_set,List.length_append,List.length_cons,List.length_nil,List.length_map,List.length_take,List.length_drop];omega)
    | (obtain ⟨x,_,rfl⟩ := List.mem_map.1 (by assumption);rfl)
    | (obtain ⟨x,_,rfl⟩ := List.mem_map.1 (List.mem_of_mem_take (by assumption));rfl)
    | (obtain ⟨x,_,rfl⟩ := List.mem_map.1 (List.mem_of_mem_drop (List.mem_of_mem_take (by assumption)));rfl)
    | (simp (disch := omega) only [wr_id];omega)
    | (guard_hyp t0;first|(rw [im_Plan_copied];all_goals first|grind|(repeat' split) <;> first|rfl|grind))
    | (guard_hyp t1;first|(rw [im_Plan_code];all_goals first|grind|(repeat' split) <;> first|rfl|grind))
    | grind)
theorem im_Plan_copied_c : Sim_Plan_copied_c := layH31.1
theorem im_Plan_code_c : Sim_Plan_code_c := layH31.2
end Go.Proofs.YtlojldccjmkikaaGreat
end
section
namespace Go.Proofs.YtlojldccjmkikaaGreat
open Go.Ae
open Go.Ae renaming getR_eq → z1, getR_ne → z2, getR_nil → z3, lF_mk → z4, cont1 → z5, cont2a → z6, cont2b → z7, cont3a → z8, cont3b → z9, cont3c → z10, wr_up → z11, wr_dn → z12
open Go.Ae.VSub renaming any' → z13, same → z14, nilRd → z15, mtRd → z16, lit → z17, ptr' → z18, slD → z19, slNil → z20, agg' → z21, tup' → z22, fn' → z23, rpSame → z24, rpF → z25, frz → z26, frzC → z27, slCD → z28
open Go.Ae.LSub renaming nil' → z29, cons' → z30, mkR' → z31
open Go.Ae.SSub renaming nil' → z32, cons' → z33
open Go.Ae.HTell renaming nil' → z34, some' → z35, freshRows → z36
open Go.Ae.BSub renaming cells' → z37, pre → z38
open Go.Ae.RowsAre renaming map → z39
set_option linter.unusedSimpArgs false
set_option linter.unusedVariables false
attribute [local irreducible] wr bitsOf VSub LSub SSub HTell BSub RowIs RowsAre Ent lF mkR
def slices_Insert_PlanSeen (s : List GPlanSeen) (i : Int) (v : List GPlanSeen) : (List GPlanSeen) :=
  s.take i.toNat ++ v ++ s.drop i.toNat
set_option maxRecDepth 10000 in
set_option maxHeartbeats 2000000 in
theorem slices_Insert_PlanSeen_s0 (s : List GPlanSeen) (i : Int) (v : List GPlanSeen) (hp0 : s.length ≤ 1000) (hp1 : v.length ≤ 1000) (hp2 : 0 ≤ i) (hp3 : i ≤ (s.length : Int)) (hp4 : v.length = 1) (hp5 : s.length = 0) : Does Tryz.prog 101 0 [.sl 0 3 0 s.length, .lit (.int .i64 i), .sl 1 3 0 v.length] [some (.rows 3 (fun q => (encGPlanSeen q).map AV.r) s), some (.rows 3 (fun q => (encGPlanSeen q).map AV.r) v)] (fun vv H2 => vv = .sl 0 3 0 (slices_Insert_PlanSeen s i v).length ∧ H2 = [some (.rows 3 (fun q => (encGPlanSeen q).map AV.r) (slices_Insert_PlanSeen s i v))]) := by
  obtain rfl := List.length_eq_zero_iff.1 (by assumption) <;> (
  refine Does.goR Tryz.func101 Tryz.ntmps101 Tryz.results101 rfl (Nat.zero_le _) rfl ?_
  simp only [argR, Nat.reduceAdd]
  repeat' (first
    | (refine Tri.regSeq fun K hK => RegS.run ?_)
    | (refine Tri.reg fun K hK => RegS.run ?_)
    | (refine RegS.nil (hK _ _ ?_);clear hK K)
    | (refine QuietS.nil (hK _ _ ?_);clear hK K)
    | ((first|refine RegS.step fun K1 h1 => ?_|refine QuietS.step fun K1 h1 => ?_);simp only [go_sem,reduceCtorEq,Nat.reduceAdd,Nat.reduceSub,Nat.reduceMul,Nat.reduceLeDiff,Nat.reduceLT,Nat.reduceEqDiff])
    | (refine Tri.heavySeqN 11 rfl mixedP [] [8] [(0,0),(1,0),(2,0),(3,0),(4,0),(5,0),(6,0),(7,0),(8,2)] (by kernel_rfl) fun K hK => ?_;simp only [ballOf,ballX,cellIds,Heap.at,List.getD_cons_zero,List.getD_cons_succ,List.nil_append,List.cons_append,idOf,z1,z2,Nat.reduceEqDiff,Nat.reduceLT,not_false_eq_true])
    | (refine Tri.heavyN 11 rfl mixedP [] [8] [(0,0),(1,0),(2,0),(3,0),(4,0),(5,0),(6,0),(7,0),(8,2)] (by kernel_rfl) fun K hK => ?_;simp only [ballOf,ballX,cellIds,Heap.at,List.getD_cons_zero,List.getD_cons_succ,List.nil_append,List.cons_append,idOf,z1,z2,Nat.reduceEqDiff,Nat.reduceLT,not_false_eq_true])
    | (refine Tri.heavySeqN 15 rfl mixedP [] [8] [(0,0),(1,0),(2,0),(3,0),(4,0),(5,0),(6,0),(7,0),(8,2)] (by kernel_rfl) fun K hK => ?_;simp only [ballOf,ballX,cellIds,Heap.at,List.getD_cons_zero,List.getD_cons_succ,List.nil_append,List.cons_append,idOf,z1,z2,Nat.reduceEqDiff,Nat.reduceLT,not_false_eq_true])
    | (refine Tri.heavyN 15 rfl mixedP [] [8] [(0,0),(1,0),(2,0),(3,0),(4,0),(5,0),(6,0),(7,0),(8,2)] (by kernel_rfl) fun K hK => ?_;simp only [ballOf,ballX,cellIds,Heap.at,List.getD_cons_zero,List.getD_cons_succ,List.nil_append,List.cons_append,idOf,z1,z2,Nat.reduceEqDiff,Nat.reduceLT,not_false_eq_true])
    | (refine DrawS.nil (hK _ _ ?_);clear hK K)
    | (refine DrawS.step fun K1 h1 => ?_;simp only [go_sem,reduceCtorEq,Nat.reduceAdd,Nat.reduceSub,Nat.reduceMul,Nat.reduceLeDiff,Nat.reduceLT,Nat.reduceEqDiff])
    | (with_reducible refine GPlanSeen_ex _ _ _ ?_)
    | (refine h1 _ _ ?_;clear h1 K1)
    | refine And.intro ?_ ?_
    | (rw [if_pos ?_];rotate_left;focus (first|omega|(simp (disch := omega) only [wr_id,List.length_append,List.length_take,List.length_drop,List.length_map,List.length_replicate,List.length_cons,List.length_nil];omega)))
    | omega
    | (refine Tri.cond (b := ?_) ?_ ?_ ?_;rotate_left 1;focus (simp only [ev,z1,z2,Nat.reduceEqDiff,Nat.reduceLT,not_false_eq_true];exact rfl))
    | (intro h;(try simp only [decide_eq_true_eq,decide_eq_false_iff_not,Int.not_lt,Int.not_le,beq_iff_eq,bne_iff_ne,beq_eq_false_iff_ne,bne_eq_false_iff_eq,ne_eq,Bool.not_eq_true',Bool.not_eq_false',Decidable.not_not] at h);(try contradiction))
    | (refine Tri.skip ?_;try change Tri _ _ _ _ _ _)
    | (refine Tri.exit ?_;try change Tri _ _ _ _ _ _)
    | refine Tri.ret ?_
    | refine Tri.block ?_
    | refine Tri.seq ?_
    | (refine EndK.eqq (p := 0) (vs := ?_) (f := fun x : (List GPlanSeen) => .sl 0 3 0 x.length) (g := fun x : (List GPlanSeen) => [some (.rows 3 (fun q => (encGPlanSeen q).map AV.r) x)]) v [?_] (by first|exact .inr rfl|exact .inl rfl) ?_ ?_ ?_ (by simp) ?_ ?_ ?_
       rotate_left 2; (focus (simp only [go_sem, reduceCtorEq, Nat.reduceAdd, Nat.reduceSub, Nat.reduceMul, Nat.reduceLeDiff, Nat.reduceLT, Nat.reduceEqDiff]; exact rfl)); rotate_left 3; (focus (repeat' (first | simp only [z1, z2, z3, Nat.reduceEqDiff, Nat.reduceLT, not_false_eq_true] | exact z29 | refine z30 ?_ ?_ | exact z32 | refine z33 ?_ ?_ | refine z31 ?_ | exact z34 | refine z35 rfl ?_ ?_ | refine z36 ?_ | exact z13 | exact z14 | exact z15 | exact z16 | refine z17 ?_ | refine z18 rfl ?_ | refine z19 rfl ?_ ?_ | refine z28 rfl ?_ ?_ | (show lτ _ _ = some _; exact rfl) | exact z20 rfl rfl | refine z20 rfl ?_ | refine z21 ?_ | refine z23 ?_ | exact z24 | refine z25 ?_ rfl rfl ?_ | refine z22 ?_ | refine z26 ?_ rfl rfl ?_ ?_ | refine z27 ?_ rfl rfl ?_ ?_ ?_ | exact True.intro | exact z4 rfl | exact z5 | exact z6 | exact z7 | exact z8 | exact z9 | exact z10 | refine z37 ?_ | refine z38 (List.length (v)) rfl ?_ | exact z39 |       refine RowsAre.rep (x := ?_) (n := ?_) ?_ | exact GPlanSeen_row _ | exact GPlanSeen_mk _ _ _ | with_reducible exact rfl | (refine z11 ?_; omega) | (refine z12 ?_; omega) | simp only [List.length_append, List.length_map, List.length_cons, List.length_nil, List.length_set, List.length_replicate]))); rotate_right 1; (focus (repeat' (first | simp only [z1, z2, z3, Nat.reduceEqDiff, Nat.reduceLT, not_false_eq_true] | exact z29 | refine z30 ?_ ?_ | exact z32 | refine z33 ?_ ?_ | refine z31 ?_ | exact z34 | refine z35 rfl ?_ ?_ | refine z36 ?_ | exact z13 | exact z14 | exact z15 | exact z16 | refine z17 ?_ | refine z18 rfl ?_ | refine z19 rfl ?_ ?_ | refine z28 rfl ?_ ?_ | (show lτ _ _ = some _; exact rfl) | exact z20 rfl rfl | refine z20 rfl ?_ | refine z21 ?_ | refine z23 ?_ | exact z24 | refine z25 ?_ rfl rfl ?_ | refine z22 ?_ | refine z26 ?_ rfl rfl ?_ ?_ | refine z27 ?_ rfl rfl ?_ ?_ ?_ | exact True.intro | exact z4 rfl | exact z5 | exact z6 | exact z7 | exact z8 | exact z9 | exact z10 | refine z37 ?_ | refine z38 (List.length (v)) rfl ?_ | exact z39 |       refine RowsAre.rep (x := ?_) (n := ?_) ?_ | exact GPlanSeen_row _ | exact GPlanSeen_mk _ _ _ | with_reducible exact rfl | (refine z11 ?_; omega) | (refine z12 ?_; omega) | simp only [List.length_append, List.length_map, List.length_cons, List.length_nil, List.length_set, List.length_replicate]))); (all_goals (try (with_reducible refine LenEq.mk ?_); try with_reducible exact rfl)); (all_goals (try (with_reducible refine BoolIs.mk ?_); exact rfl))))
  all_goals (try clear h1); all_goals (try clear K1); all_goals (try clear hK); all_goals (try clear K); all_goals (try dsimp only); all_goals (try simp only [Bool.not_eq_false', Bool.not_eq_true', decide_eq_true_eq, decide_eq_false_iff_not] at *); all_goals (try simp only [GPlanSeen_eta] at *)
  all_goals first
    | omega
    | (refine RowsAre.of ?_;simp [Blk.L,encGPlanSeen,List.take_of_length_le];done)
    | (simp [slices_Insert_PlanSeen];done)
    | (simp only [List.length_append,List.length_take,List.length_drop,List.length_map];omega)
    | (simp (disch := omega) only [wr_id,List.length_append,List.length_take,List.length_drop,List.length_map,List.length_replicate,List.length_cons,List.length_nil] at *;omega)
    | rfl
    | (refine RowsAre.of ?_;simp only [Blk.L,encGPlanSeen,List.map_cons,List.map_nil,List.map_append,List.map_take,List.map_drop];rw [show (List.take i.toNat s).length + v.length + (List.drop i.toNat s).length = i.toNat + 1 + (s.length - i.toNat) by simp only [List.length_take,List.length_drop];omega];rw [hp4];exact ins1 _ _ i.toNat s.length _ _ _ (by simp) (by simpa using hp4) (by omega) (by simp (disch := omega) only [wr_id];omega) (by simp (disch := omega) only [wr_id];omega))
    | (refine RowsAre.of ?_;simp only [Blk.L,encGPlanSeen,List.map_cons,List.map_nil,List.map_append,List.map_take,List.map_drop];rw [show (List.take i.toNat s).length + v.length + (List.drop i.toNat s).length = i.toNat + 1 + (s.length - i.toNat) by simp only [List.length_take,List.length_drop];omega];rw [hp4];exact ins2 _ _ i.toNat s.length _ _ (by simp) (by simpa using hp4) (by omega) (by simp (disch := omega) only [wr_id];omega) (by simp (disch := omega) only [wr_id];omega))
    | (refine RowsAre.of ?_;simp only [Blk.L,encGPlanSeen,List.map_cons,List.map_nil,List.map_append,List.map_take,List.map_drop];(try simp (disch := omega) only [wr_id]);generalize hA0 : List.map (fun q : GPlanSeen => [AV.r (RV.lit (Value.int IntKind.i64 q.Session)),AV.r (RV.lit (Value.int IntKind.i64 q.Call)),AV.r (RV.lit (Value.int IntKind.i64 q.Code))]) s = A0;have hl0 : A0.length = s.length := (by rw [← hA0,List.length_map]);clear hA0;generalize hA1 : List.map (fun q : GPlanSeen => [AV.r (RV.lit (Value.int IntKind.i64 q.Session)),AV.r (RV.lit (Value.int IntKind.i64 q.Call)),AV.r (RV.lit (Value.int IntKind.i64 q.Code))]) v = A1;have hl1 : A1.length = v.length := (by rw [← hA1,List.length_map]);clear hA1;apply List.ext_getElem?;intro n;grind)
    | (simp only [List.length_take,List.length_map];omega)
    | (simp only [List.length_cons,List.length_nil,Nat.reduceAdd];done)
    | (simp only [List.length_set,List.length_append,List.length_cons,List.length_nil,List.length_map,List.length_take,List.length_drop];omega)
    | (obtain ⟨x,_,rfl⟩ := List.mem_map.1 (by assumption);rfl)
    | (obtain ⟨x,_,rfl⟩ := List.mem_map.1 (List.mem_of_mem_take (by assumption));rfl)
    | (obtain ⟨x,_,rfl⟩ := List.mem_map.1 (List.mem_of_mem_drop (List.mem_of_mem_take (by assumption)));rfl)
    | (simp (disch := omega) only [wr_id];omega)
    | (rw [slices_Insert_PlanSeen];all_goals first|grind|(repeat' split) <;> first|rfl|grind)
    | grind)
set_option maxRecDepth 10000 in
set_option maxHeartbeats 2000000 in
theorem slices_Insert_PlanSeen_s1 (s : List GPlanSeen) (i : Int) (v : List GPlanSeen) (hp0 : s.length ≤ 1000) (hp1 : v.length ≤ 1000) (hp2 : 0 ≤ i) (hp3 : i ≤ (s.length : Int)) (hp4 : v.length = 1) (hp5 : 0 < s.length) : Does Tryz.prog 101 0 [.sl 0 3 0 s.length, .lit (.int .i64 i), .sl 1 3 0 v.length] [some (.rows 3 (fun q => (encGPlanSeen q).map AV.r) s), some (.rows 3 (fun q => (encGPlanSeen q).map AV.r) v)] (fun vv H2 => vv = .sl 0 3 0 (slices_Insert_PlanSeen s i v).length ∧ H2 = [some (.rows 3 (fun q => (encGPlanSeen q).map AV.r) (slices_Insert_PlanSeen s i v))]) := by
  refine Does.slcHead (by omega) fun cap0 hcap0 => ?_
  refine Does.goR Tryz.func101 Tryz.ntmps101 Tryz.results101 rfl (Nat.zero_le _) rfl ?_
  simp only [argR, Nat.reduceAdd]
  repeat' (first
    | (refine Tri.regSeq fun K hK => RegS.run ?_)
    | (refine Tri.reg fun K hK => RegS.run ?_)
    | (refine RegS.nil (hK _ _ ?_);clear hK K)
    | (refine QuietS.nil (hK _ _ ?_);clear hK K)
    | ((first|refine RegS.step fun K1 h1 => ?_|refine QuietS.step fun K1 h1 => ?_);simp only [go_sem,reduceCtorEq,Nat.reduceAdd,Nat.reduceSub,Nat.reduceMul,Nat.reduceLeDiff,Nat.reduceLT,Nat.reduceEqDiff])
    | (refine Tri.heavySeqN 11 rfl mixedP [] [8] [(0,0),(1,0),(2,0),(3,0),(4,0),(5,0),(6,0),(7,0),(8,2)] (by kernel_rfl) fun K hK => ?_;simp only [ballOf,ballX,cellIds,Heap.at,List.getD_cons_zero,List.getD_cons_succ,List.nil_append,List.cons_append,idOf,z1,z2,Nat.reduceEqDiff,Nat.reduceLT,not_false_eq_true])
    | (refine Tri.heavyN 11 rfl mixedP [] [8] [(0,0),(1,0),(2,0),(3,0),(4,0),(5,0),(6,0),(7,0),(8,2)] (by kernel_rfl) fun K hK => ?_;simp only [ballOf,ballX,cellIds,Heap.at,List.getD_cons_zero,List.getD_cons_succ,List.nil_append,List.cons_append,idOf,z1,z2,Nat.reduceEqDiff,Nat.reduceLT,not_false_eq_true])
    | (refine Tri.heavySeqN 15 rfl mixedP [] [8] [(0,0),(1,0),(2,0),(3,0),(4,0),(5,0),(6,0),(7,0),(8,2)] (by kernel_rfl) fun K hK => ?_;simp only [ballOf,ballX,cellIds,Heap.at,List.getD_cons_zero,List.getD_cons_succ,List.nil_append,List.cons_append,idOf,z1,z2,Nat.reduceEqDiff,Nat.reduceLT,not_false_eq_true])
    | (refine Tri.heavyN 15 rfl mixedP [] [8] [(0,0),(1,0),(2,0),(3,0),(4,0),(5,0),(6,0),(7,0),(8,2)] (by kernel_rfl) fun K hK => ?_;simp only [ballOf,ballX,cellIds,Heap.at,List.getD_cons_zero,List.getD_cons_succ,List.nil_append,List.cons_append,idOf,z1,z2,Nat.reduceEqDiff,Nat.reduceLT,not_false_eq_true])
    | (refine DrawS.nil (hK _ _ ?_);clear hK K)
    | (refine DrawS.step fun K1 h1 => ?_;simp only [go_sem,reduceCtorEq,Nat.reduceAdd,Nat.reduceSub,Nat.reduceMul,Nat.reduceLeDiff,Nat.reduceLT,Nat.reduceEqDiff])
    | (with_reducible refine GPlanSeen_ex _ _ _ ?_)
    | (refine h1 _ _ ?_;clear h1 K1)
    | refine And.intro ?_ ?_
    | (rw [if_pos ?_];rotate_left;focus (first|omega|(simp (disch := omega) only [wr_id,List.length_append,List.length_take,List.length_drop,List.length_map,List.length_replicate,List.length_cons,List.length_nil];omega)))
    | omega
    | (refine Tri.cond (b := ?_) ?_ ?_ ?_;rotate_left 1;focus (simp only [ev,z1,z2,Nat.reduceEqDiff,Nat.reduceLT,not_false_eq_true];exact rfl))
    | (intro h;(try simp only [decide_eq_true_eq,decide_eq_false_iff_not,Int.not_lt,Int.not_le,beq_iff_eq,bne_iff_ne,beq_eq_false_iff_ne,bne_eq_false_iff_eq,ne_eq,Bool.not_eq_true',Bool.not_eq_false',Decidable.not_not] at h);(try contradiction))
    | (refine Tri.skip ?_;try change Tri _ _ _ _ _ _)
    | (refine Tri.exit ?_;try change Tri _ _ _ _ _ _)
    | refine Tri.ret ?_
    | refine Tri.block ?_
    | refine Tri.seq ?_
    | (refine EndK.eqq (p := 0) (vs := ?_) (f := fun x : (List GPlanSeen) => .sl 0 3 0 x.length) (g := fun x : (List GPlanSeen) => [some (.rows 3 (fun q => (encGPlanSeen q).map AV.r) x)]) (s.take i.toNat ++ v ++ s.drop i.toNat) [?_] (by first|exact .inr rfl|exact .inl rfl) ?_ ?_ ?_ (by simp) ?_ ?_ ?_
       rotate_left 2; (focus (simp only [go_sem, reduceCtorEq, Nat.reduceAdd, Nat.reduceSub, Nat.reduceMul, Nat.reduceLeDiff, Nat.reduceLT, Nat.reduceEqDiff]; exact rfl)); rotate_left 3; (focus (repeat' (first | simp only [z1, z2, z3, Nat.reduceEqDiff, Nat.reduceLT, not_false_eq_true] | exact z29 | refine z30 ?_ ?_ | exact z32 | refine z33 ?_ ?_ | refine z31 ?_ | exact z34 | refine z35 rfl ?_ ?_ | refine z36 ?_ | exact z13 | exact z14 | exact z15 | exact z16 | refine z17 ?_ | refine z18 rfl ?_ | refine z19 rfl ?_ ?_ | refine z28 rfl ?_ ?_ | (show lτ _ _ = some _; exact rfl) | exact z20 rfl rfl | refine z20 rfl ?_ | refine z21 ?_ | refine z23 ?_ | exact z24 | refine z25 ?_ rfl rfl ?_ | refine z22 ?_ | refine z26 ?_ rfl rfl ?_ ?_ | refine z27 ?_ rfl rfl ?_ ?_ ?_ | exact True.intro | exact z4 rfl | exact z5 | exact z6 | exact z7 | exact z8 | exact z9 | exact z10 | refine z37 ?_ | refine z38 (List.length ((s.take i.toNat ++ v ++ s.drop i.toNat))) rfl ?_ | exact z39 |       refine RowsAre.rep (x := ?_) (n := ?_) ?_ | exact GPlanSeen_row _ | exact GPlanSeen_mk _ _ _ | with_reducible exact rfl | (refine z11 ?_; omega) | (refine z12 ?_; omega) | simp only [List.length_append, List.length_map, List.length_cons, List.length_nil, List.length_set, List.length_replicate]))); rotate_right 1; (focus (repeat' (first | simp only [z1, z2, z3, Nat.reduceEqDiff, Nat.reduceLT, not_false_eq_true] | exact z29 | refine z30 ?_ ?_ | exact z32 | refine z33 ?_ ?_ | refine z31 ?_ | exact z34 | refine z35 rfl ?_ ?_ | refine z36 ?_ | exact z13 | exact z14 | exact z15 | exact z16 | refine z17 ?_ | refine z18 rfl ?_ | refine z19 rfl ?_ ?_ | refine z28 rfl ?_ ?_ | (show lτ _ _ = some _; exact rfl) | exact z20 rfl rfl | refine z20 rfl ?_ | refine z21 ?_ | refine z23 ?_ | exact z24 | refine z25 ?_ rfl rfl ?_ | refine z22 ?_ | refine z26 ?_ rfl rfl ?_ ?_ | refine z27 ?_ rfl rfl ?_ ?_ ?_ | exact True.intro | exact z4 rfl | exact z5 | exact z6 | exact z7 | exact z8 | exact z9 | exact z10 | refine z37 ?_ | refine z38 (List.length ((s.take i.toNat ++ v ++ s.drop i.toNat))) rfl ?_ | exact z39 |       refine RowsAre.rep (x := ?_) (n := ?_) ?_ | exact GPlanSeen_row _ | exact GPlanSeen_mk _ _ _ | with_reducible exact rfl | (refine z11 ?_; omega) | (refine z12 ?_; omega) | simp only [List.length_append, List.length_map, List.length_cons, List.length_nil, List.length_set, List.length_replicate]))); (all_goals (try (with_reducible refine LenEq.mk ?_); try with_reducible exact rfl)); (all_goals (try (with_reducible refine BoolIs.mk ?_); exact rfl))))
  all_goals (try clear h1); all_goals (try clear K1); all_goals (try clear hK); all_goals (try clear K); all_goals (try dsimp only); all_goals (try simp only [Bool.not_eq_false', Bool.not_eq_true', decide_eq_true_eq, decide_eq_false_iff_not] at *); all_goals (try simp only [GPlanSeen_eta] at *)
  all_goals first
    | omega
    | (simp only [List.length_append,List.length_take,List.length_drop,List.length_map];omega)
    | (simp (disch := omega) only [wr_id,List.length_append,List.length_take,List.length_drop,List.length_map,List.length_replicate,List.length_cons,List.length_nil] at *;omega)
    | rfl
    | (refine RowsAre.of ?_;simp only [Blk.L,encGPlanSeen,List.map_cons,List.map_nil,List.map_append,List.map_take,List.map_drop];rw [show (List.take i.toNat s).length + v.length + (List.drop i.toNat s).length = i.toNat + 1 + (s.length - i.toNat) by simp only [List.length_take,List.length_drop];omega];rw [hp4];exact ins1 _ _ i.toNat s.length _ _ _ (by simp) (by simpa using hp4) (by omega) (by simp (disch := omega) only [wr_id];omega) (by simp (disch := omega) only [wr_id];omega))
    | (refine RowsAre.of ?_;simp only [Blk.L,encGPlanSeen,List.map_cons,List.map_nil,List.map_append,List.map_take,List.map_drop];rw [show (List.take i.toNat s).length + v.length + (List.drop i.toNat s).length = i.toNat + 1 + (s.length - i.toNat) by simp only [List.length_take,List.length_drop];omega];rw [hp4];exact ins2 _ _ i.toNat s.length _ _ (by simp) (by simpa using hp4) (by omega) (by simp (disch := omega) only [wr_id];omega) (by simp (disch := omega) only [wr_id];omega))
    | (refine RowsAre.of ?_;simp only [Blk.L,encGPlanSeen,List.map_cons,List.map_nil,List.map_append,List.map_take,List.map_drop];(try simp (disch := omega) only [wr_id]);generalize hA0 : List.map (fun q : GPlanSeen => [AV.r (RV.lit (Value.int IntKind.i64 q.Session)),AV.r (RV.lit (Value.int IntKind.i64 q.Call)),AV.r (RV.lit (Value.int IntKind.i64 q.Code))]) s = A0;have hl0 : A0.length = s.length := (by rw [← hA0,List.length_map]);clear hA0;generalize hA1 : List.map (fun q : GPlanSeen => [AV.r (RV.lit (Value.int IntKind.i64 q.Session)),AV.r (RV.lit (Value.int IntKind.i64 q.Call)),AV.r (RV.lit (Value.int IntKind.i64 q.Code))]) v = A1;have hl1 : A1.length = v.length := (by rw [← hA1,List.length_map]);clear hA1;apply List.ext_getElem?;intro n;grind)
    | (simp only [List.length_cons,List.length_nil,Nat.reduceAdd];done)
    | (simp only [List.length_set,List.length_append,List.length_cons,List.length_nil,List.length_map,List.length_take,List.length_drop];omega)
    | (obtain ⟨x,_,rfl⟩ := List.mem_map.1 (by assumption);rfl)
    | (obtain ⟨x,_,rfl⟩ := List.mem_map.1 (List.mem_of_mem_take (by assumption));rfl)
    | (obtain ⟨x,_,rfl⟩ := List.mem_map.1 (List.mem_of_mem_drop (List.mem_of_mem_take (by assumption)));rfl)
    | (simp (disch := omega) only [wr_id];omega)
    | (rw [slices_Insert_PlanSeen];all_goals first|grind|(repeat' split) <;> first|rfl|grind)
    | grind
theorem slices_Insert_PlanSeen_c (s : List GPlanSeen) (i : Int) (v : List GPlanSeen) (hp0 : s.length ≤ 1000) (hp1 : v.length ≤ 1000) (hp2 : 0 ≤ i) (hp3 : i ≤ (s.length : Int)) (hp4 : v.length = 1) : Does Tryz.prog 101 0 [.sl 0 3 0 s.length, .lit (.int .i64 i), .sl 1 3 0 v.length] [some (.rows 3 (fun q => (encGPlanSeen q).map AV.r) s), some (.rows 3 (fun q => (encGPlanSeen q).map AV.r) v)] (fun vv H2 => vv = .sl 0 3 0 (slices_Insert_PlanSeen s i v).length ∧ H2 = [some (.rows 3 (fun q => (encGPlanSeen q).map AV.r) (slices_Insert_PlanSeen s i v))]) := by
  by_cases hs : s.length = 0
  · exact slices_Insert_PlanSeen_s0 s i v hp0 hp1 hp2 hp3 hp4 hs
  · exact slices_Insert_PlanSeen_s1 s i v hp0 hp1 hp2 hp3 hp4 (by omega)
end Go.Proofs.YtlojldccjmkikaaGreat
end
section
/-! Lengths of plans that are ok. -/
namespace Go.Proofs.YtlojldccjmkikaaGreat
open Go.Ae
theorem imPlanOk_lens {p : GPlan} (h : im_PlanOk p = true) : p.Table.Ranges.length ≤ 8 ∧ p.Seen.length ≤ 4 := by
  simp only [im_PlanOk, Bool.and_eq_true, decide_eq_true_eq] at h
  have h1 := ((imOk_iff _).1 h.1.1.1.2).2.2.1.2
  exact ⟨h1, by omega⟩
theorem imCopied_eq (p : GPlan) : im_Plan_copied p = p := by simp [im_Plan_copied, copied_eq, slices_Clone_PlanSeen]
theorem code_seen (p : GPlan) (c : GCmd) : (im_Plan_code p c).2.Seen = p.Seen ∧ (im_Plan_code p c).2.At = p.At := by
  unfold im_Plan_code im_Plan_group
  simp only []
  repeat' split
  all_goals simp
theorem code_tab (p : GPlan) (c : GCmd) : (im_Plan_code p c).2.Table.Ranges.length ≤ p.Table.Ranges.length + 8 := by
  have hs := split_both p.Table c.At; have hm := merge_both p.Table c.At; have hv := move_both p.Table c.At c.To
  have hj := join_both p.Table c.To; have hl := leave_both p.Table c.To
  have L : ∀ {t : GTable} {x : GTable × Int}, Good t x → x.1.Ranges.length ≤ t.Ranges.length + 8 := by
    intro t x h
    by_cases hok : OkT t
    · by_cases h1 : x.2 = 0
      · have := (h.2.2 h1).1.2.2.1.2; omega
      · rw [h.2.1 hok h1]; omega
    · rw [h.1 hok]; simp
  have hs' := L hs.2; have hm' := L hm.2; have hv' := L hv.2; have hj' := L hj.2; have hl' := L hl.2
  rw [← hs.1] at hs'; rw [← hm.1] at hm'; rw [← hv.1] at hv'; rw [← hj.1] at hj'; rw [← hl.1] at hl'
  unfold im_Plan_code im_Plan_group
  simp only []
  repeat' split
  all_goals simp only []
  all_goals omega
theorem bsL_bd (l : List GPlanSeen) (t : Int) (hl : l.length ≤ 2147483648) : ∀ (m i j : Nat), j - i = m → i ≤ j → j ≤ l.length → ∃ k : Nat, k ≤ l.length ∧ (slices_BinarySearchFunc_PlanSeen_f_im_Plan_do_1_L1 l t i j).1 = (k : Int) := by
  intro m
  induction m using Nat.strongRecOn with
  | _ m ih =>
    intro i j hm hij hj
    rw [slices_BinarySearchFunc_PlanSeen_f_im_Plan_do_1_L1, dif_pos (by omega)]
    by_cases hlt : i < j
    · rw [dif_pos (by omega)]
      have eh : (wr .i64 ((wr .u64 (wr .i64 ((i : Int) + (j : Int)))).fdiv (2 ^ (min (1 : Int).toNat 64)))) = (((i + j) / 2 : Nat) : Int) := by
        rw [half_eq, wr_id (n := (i : Int) + j) (by omega) (by omega), wr_u64 (by omega) (by omega), wr_id (by omega) (by omega)]; omega
      have e1 : wr .i64 ((((i + j) / 2 : Nat) : Int) + 1) = (((i + j) / 2 + 1 : Nat) : Int) := by rw [wr_id (by omega) (by omega)]; omega
      simp only [eh, e1]
      split
      · exact ih (j - ((i + j) / 2 + 1)) (by omega) _ _ rfl (by omega) hj
      · exact ih ((i + j) / 2 - i) (by omega) _ _ rfl (by omega) (by omega)
    · rw [dif_neg (by omega)]; exact ⟨i, by omega, rfl⟩
theorem bs_bd (l : List GPlanSeen) (t : Int) (hl : l.length ≤ 2147483648) : 0 ≤ (slices_BinarySearchFunc_PlanSeen_f_im_Plan_do_1 l t).1 ∧ (slices_BinarySearchFunc_PlanSeen_f_im_Plan_do_1 l t).1 ≤ (l.length : Int) ∧
    ((slices_BinarySearchFunc_PlanSeen_f_im_Plan_do_1 l t).2 = true → (slices_BinarySearchFunc_PlanSeen_f_im_Plan_do_1 l t).1 < (l.length : Int)) := by
  obtain ⟨k, h1, h2⟩ := bsL_bd l t hl _ 0 l.length rfl (by omega) (Nat.le_refl _)
  have e : (slices_BinarySearchFunc_PlanSeen_f_im_Plan_do_1 l t).1 = (k : Int) := h2
  refine ⟨by omega, by omega, fun h => ?_⟩
  have h3 : (decide ((slices_BinarySearchFunc_PlanSeen_f_im_Plan_do_1 l t).1 < (l.length : Int)) && (im_Plan_do_1 (l.getD (slices_BinarySearchFunc_PlanSeen_f_im_Plan_do_1 l t).1.toNat default) t == 0)) = true := h
  rw [Bool.and_eq_true, decide_eq_true_eq] at h3
  exact h3.1
end Go.Proofs.YtlojldccjmkikaaGreat
end
