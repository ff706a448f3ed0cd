/- Contracts of the law's marks, for lists whose lengths are bounded as stated. -/
import Derived.Test.YtlojldccjmkikaaGreatK1
set_option linter.unusedVariables false
set_option linter.unusedSimpArgs false
section
namespace Go.Proofs.YtlojldccjmkikaaGreat
open Go.Ae
open Go.Ae renaming getR_eq → z1, getR_ne → z2, getR_nil → z3, lF_mk → z4, cont1 → z5, cont2a → z6, cont2b → z7, cont3a → z8, cont3b → z9, cont3c → z10, wr_up → z11, wr_dn → z12
open Go.Ae.VSub renaming any' → z13, same → z14, nilRd → z15, mtRd → z16, lit → z17, ptr' → z18, sl' → z19, slNil → z20, agg' → z21, tup' → z22, fn' → z23, rpSame → z24, rpF → z25, frz → z26, frzC → z27
open Go.Ae.LSub renaming nil' → z28, cons' → z29, mkR' → z30
open Go.Ae.SSub renaming nil' → z31, cons' → z32
open Go.Ae.HTell renaming nil' → z33, some' → z34, freshRows → z35
open Go.Ae.BSub renaming cells' → z36, own → z37
open Go.Ae.RowsAre renaming map → z38, nil → z39, app → z40, spl → z41, take → z42, drop → z43, cons → z44
open Go.Ae.CallA renaming gv0 → z45, lend → z46
set_option linter.unusedSimpArgs false
set_option linter.unusedVariables false
attribute [local irreducible] wr bitsOf VSub LSub SSub HTell BSub RowIs RowsAre Ent lF mkR
def lw_markTableRangeS_L1 (a : List GTableRange) (k : Int) (i : Nat) : (List GTableRange) × Int :=
  if h0 : ((i : Int) < (a.length : Int)) then
      let a := a.set i ({ (a.getD i default) with Lo := k })
      let k := (wr .i64 (k + 1))
      let a := a.set i ({ (a.getD i default) with Hi := k })
      let k := (wr .i64 (k + 1))
      let a := a.set i ({ (a.getD i default) with Node := k })
      let k := (wr .i64 (k + 1))
      lw_markTableRangeS_L1 a k (i + 1)
  else (a, k)
termination_by ((a.length : Int) - (i : Int)).toNat
decreasing_by all_goals (first | omega | (simp only [List.length_set]; omega))
def lw_markTableRangeS_K1 (a : List GTableRange) (k : Int) (i : Nat) : Int × (List GTableRange) :=
  let q := lw_markTableRangeS_L1 a k i
  let a := q.1
  let k := q.2
  (k, a)
def lw_markTableRangeS (a : List GTableRange) (k : Int) : Int × (List GTableRange) :=
  let i : Nat := 0
  lw_markTableRangeS_K1 a k i
def lw_markPlanSeenS_L1 (a : List GPlanSeen) (k : Int) (i : Nat) : (List GPlanSeen) × Int :=
  if h0 : ((i : Int) < (a.length : Int)) then
      let a := a.set i ({ (a.getD i default) with Session := k })
      let k := (wr .i64 (k + 1))
      let a := a.set i ({ (a.getD i default) with Call := k })
      let k := (wr .i64 (k + 1))
      let a := a.set i ({ (a.getD i default) with Code := k })
      let k := (wr .i64 (k + 1))
      lw_markPlanSeenS_L1 a k (i + 1)
  else (a, k)
termination_by ((a.length : Int) - (i : Int)).toNat
decreasing_by all_goals (first | omega | (simp only [List.length_set]; omega))
def lw_markPlanSeenS_K1 (a : List GPlanSeen) (k : Int) (i : Nat) : Int × (List GPlanSeen) :=
  let q := lw_markPlanSeenS_L1 a k i
  let a := q.1
  let k := q.2
  (k, a)
def lw_markPlanSeenS (a : List GPlanSeen) (k : Int) : Int × (List GPlanSeen) :=
  let i : Nat := 0
  lw_markPlanSeenS_K1 a k i
def lw_heldTableRangeS_L1 (a : List GTableRange) (k : Int) (i : Nat) : Fl (Int) (Int) :=
  if h0 : ((i : Int) < (a.length : Int)) then
      if ((a.getD i default).Lo ≠ k) then
        .ret (-1)
      else 
        let k := (wr .i64 (k + 1))
        if ((a.getD i default).Hi ≠ k) then
          .ret (-1)
        else 
          let k := (wr .i64 (k + 1))
          if ((a.getD i default).Node ≠ k) then
            .ret (-1)
          else 
            let k := (wr .i64 (k + 1))
            lw_heldTableRangeS_L1 a k (i + 1)
  else .go k
termination_by ((a.length : Int) - (i : Int)).toNat
decreasing_by all_goals omega
def lw_heldTableRangeS_K1 (a : List GTableRange) (k : Int) (i : Nat) : Int :=
  match lw_heldTableRangeS_L1 a k i with
  | .ret rr => rr
  | .go q =>
    let k := q
    k
def lw_heldTableRangeS (a : List GTableRange) (k : Int) : Int :=
  let i : Nat := 0
  lw_heldTableRangeS_K1 a k i
def lw_heldTable (a : GTable) (k : Int) : Int :=
  let k := (lw_heldTableRangeS a.Ranges k)
  if (k < 0) then
    (-1)
  else 
    k
def lw_heldPlanSeenS_L1 (a : List GPlanSeen) (k : Int) (i : Nat) : Fl (Int) (Int) :=
  if h0 : ((i : Int) < (a.length : Int)) then
      if ((a.getD i default).Session ≠ k) then
        .ret (-1)
      else 
        let k := (wr .i64 (k + 1))
        if ((a.getD i default).Call ≠ k) then
          .ret (-1)
        else 
          let k := (wr .i64 (k + 1))
          if ((a.getD i default).Code ≠ k) then
            .ret (-1)
          else 
            let k := (wr .i64 (k + 1))
            lw_heldPlanSeenS_L1 a k (i + 1)
  else .go k
termination_by ((a.length : Int) - (i : Int)).toNat
decreasing_by all_goals omega
def lw_heldPlanSeenS_K1 (a : List GPlanSeen) (k : Int) (i : Nat) : Int :=
  match lw_heldPlanSeenS_L1 a k i with
  | .ret rr => rr
  | .go q =>
    let k := q
    k
def lw_heldPlanSeenS (a : List GPlanSeen) (k : Int) : Int :=
  let i : Nat := 0
  lw_heldPlanSeenS_K1 a k i
def lw_heldPlan (a : GPlan) (k : Int) : Int :=
  let k := (lw_heldTable a.Table k)
  if (k < 0) then
    (-1)
  else 
    let k := (lw_heldPlanSeenS a.Seen k)
    if (k < 0) then
      (-1)
    else 
      k
def Slw_markTableRangeS_c : Prop := ∀ (a : List GTableRange) (k : Int) (hp0 : a.length ≤ 2147483648), Does Tryz.prog 104 1 [.sl 0 3 0 a.length, .lit (.int .i64 k)] [some (.rows 3 (fun q => (encGTableRange q).map AV.r) a)] (fun vv H2 => vv = .lit (.int .i64 (lw_markTableRangeS a k).1) ∧ H2 = [some (.rows 3 (fun q => (encGTableRange q).map AV.r) (lw_markTableRangeS a k).2)])
def Slw_markPlanSeenS_c : Prop := ∀ (a : List GPlanSeen) (k : Int) (hp0 : a.length ≤ 2147483648), Does Tryz.prog 54 1 [.sl 0 3 0 a.length, .lit (.int .i64 k)] [some (.rows 3 (fun q => (encGPlanSeen q).map AV.r) a)] (fun vv H2 => vv = .lit (.int .i64 (lw_markPlanSeenS a k).1) ∧ H2 = [some (.rows 3 (fun q => (encGPlanSeen q).map AV.r) (lw_markPlanSeenS a k).2)])
def Slw_heldTableRangeS_c : Prop := ∀ (a : List GTableRange) (k : Int) (hp0 : a.length ≤ 2147483648), Gives Tryz.prog 105 [.r (.rd 3 encGTableRange a), .lit (.int .i64 k)] (.lit (.int .i64 (lw_heldTableRangeS a k)))
def Slw_heldTable_c : Prop := ∀ (a : GTable) (k : Int) (hp0 : a.Ranges.length ≤ 2147483648), Gives Tryz.prog 55 [.agg [.lit (.int .i64 a.Epoch), .lit (.int .i64 a.Members), .r (.rd 3 encGTableRange a.Ranges)], .lit (.int .i64 k)] (.lit (.int .i64 (lw_heldTable a k)))
def Slw_heldPlanSeenS_c : Prop := ∀ (a : List GPlanSeen) (k : Int) (hp0 : a.length ≤ 2147483648), Gives Tryz.prog 56 [.r (.rd 3 encGPlanSeen a), .lit (.int .i64 k)] (.lit (.int .i64 (lw_heldPlanSeenS a k)))
def Slw_heldPlan_c : Prop := ∀ (a : GPlan) (k : Int) (hp0 : a.Table.Ranges.length ≤ 2147483648) (hp1 : a.Seen.length ≤ 2147483648), Gives Tryz.prog 17 [.agg [.lit (.int .i64 a.At), .lit (.int .i64 a.Table.Epoch), .lit (.int .i64 a.Table.Members), .r (.rd 3 encGTableRange a.Table.Ranges), .r (.rd 3 encGPlanSeen a.Seen), .lit (.int .i64 a.Old), .lit (.int .i64 a.New)], .lit (.int .i64 k)] (.lit (.int .i64 (lw_heldPlan a k)))
set_option maxRecDepth 10000 in
set_option maxHeartbeats 12000000 in
theorem layK21 : (Slw_markTableRangeS_c) ∧ (Slw_markPlanSeenS_c) ∧ (Slw_heldTableRangeS_c) ∧ (Slw_heldTableRangeS_c → Slw_heldTable_c) ∧ (Slw_heldPlanSeenS_c) ∧ (Slw_heldTable_c → Slw_heldPlanSeenS_c → Slw_heldPlan_c) := by
  refine ⟨fun a k hp0 => have t0 := tg 0; Does.goR Tryz.func104 Tryz.ntmps104 Tryz.results104 rfl (by simp) rfl ?_,
    fun a k hp0 => have t1 := tg 1; Does.goR Tryz.func54 Tryz.ntmps54 Tryz.results54 rfl (by simp) rfl ?_,
    fun a k hp0 => have t2 := tg 2; Does.goR Tryz.func105 Tryz.ntmps105 Tryz.results105 rfl (Nat.zero_le _) rfl ?_,
    fun lw_heldTableRangeS_c a k hp0 => have t3 := tg 3; Does.goR Tryz.func55 Tryz.ntmps55 Tryz.results55 rfl (Nat.zero_le _) rfl ?_,
    fun a k hp0 => have t4 := tg 4; Does.goR Tryz.func56 Tryz.ntmps56 Tryz.results56 rfl (Nat.zero_le _) rfl ?_,
    fun lw_heldTable_c lw_heldPlanSeenS_c a k hp0 hp1 => have t5 := tg 5; Does.goR Tryz.func17 Tryz.ntmps17 Tryz.results17 rfl (Nat.zero_le _) rfl ?_⟩
  all_goals (
  simp only [argR, Nat.reduceAdd]
  repeat' (first
    | (refine Tri.regSeq fun K hK => RegS.run ?_)
    | (refine Tri.reg fun K hK => RegS.run ?_)
    | (refine RegS.nil (hK _ _ ?_);clear hK K)
    | (refine QuietS.nil (hK _ _ ?_);clear hK K)
    | ((first|refine RegS.step fun K1 h1 => ?_|refine QuietS.step fun K1 h1 => ?_);simp only [go_sem,reduceCtorEq,Nat.reduceAdd,Nat.reduceSub,Nat.reduceMul,Nat.reduceLeDiff,Nat.reduceLT,Nat.reduceEqDiff])
    | (with_reducible refine GTableRange_ex _ _ _ ?_)
    | (with_reducible refine GPlanSeen_ex _ _ _ ?_)
    | (refine h1 _ _ ?_;clear h1 K1)
    | refine And.intro ?_ ?_
    | ((first
      | (refine z45 (lw_heldTableRangeS_c ?_ ?_ ?_) ?_ ?_;rotate_left 3)
      | (refine z45 (lw_heldTable_c ⟨?_,?_,?_⟩ ?_ ?_) ?_ ?_;rotate_left 5)
      | (refine z45 (lw_heldPlanSeenS_c ?_ ?_ ?_) ?_ ?_;rotate_left 3)
      ); (focus ((repeat' (first | simp only [z1, z2, z3, Nat.reduceEqDiff, Nat.reduceLT, not_false_eq_true] | exact z28 | refine z29 ?_ ?_ | exact z31 | refine z32 ?_ ?_ | refine z30 ?_ | exact z33 | refine z34 rfl ?_ ?_ | refine z35 ?_ | exact z13 | exact z14 | exact z15 | exact z16 | refine z17 ?_ | refine z18 rfl ?_ | refine z19 rfl ?_ ?_ | (show lτ _ _ = some _; exact rfl) | exact z20 rfl rfl | refine z20 rfl ?_ | refine z21 ?_ | refine z23 ?_ | exact z24 | refine z25 ?_ rfl rfl ?_ | refine z22 ?_ | refine z26 ?_ rfl rfl ?_ ?_ | refine z27 ?_ rfl rfl ?_ ?_ ?_ | exact True.intro | exact z4 rfl | exact z5 | exact z6 | exact z7 | exact z8 | exact z9 | exact z10 | refine z36 ?_ | refine z37 rfl ?_ | exact z38 | exact z39 | refine z40 (xs := ?_) (ys := ?_) ?_ ?_ | refine z41 (xs := ?_) (ys := ?_) ?_ ?_ ?_ ?_ | refine z42 (xs := ?_) ?_ | refine z43 (xs := ?_) ?_ | refine z44 (x := ?_) (xs := ?_) ?_ ?_ | refine RowsAre.rep (x := ?_) (n := ?_) ?_ | (with_reducible show RowIs _ _ _; first | exact GTableRange_row _ | exact GTableRange_mk _ _ _ | exact GPlanSeen_row _ | exact GPlanSeen_mk _ _ _ | exact GTable_row _ | exact GTable_mk _ _ _ | exact GPlan_row _ | exact GPlan_mk _ _ _ _ _ _ _) | with_reducible exact rfl | (refine z11 ?_; omega) | (refine z12 ?_; omega) | simp only [List.length_append, List.length_map, List.length_cons, List.length_nil, List.length_set, List.length_replicate])); (all_goals (fail_if_success (with_reducible show FZ _ _))); (all_goals (fail_if_success (with_reducible show List.contains _ _ = true))); (all_goals (fail_if_success (with_reducible show False))); (all_goals (fail_if_success (with_reducible show VSub _ _ _ _ _ _))))))
    | ((first
      | (refine CallL.gv0 (lw_heldTableRangeS_c ?_ ?_ ?_) ?_ ?_;rotate_left 3)
      | (refine CallL.gv0 (lw_heldTable_c ⟨?_,?_,?_⟩ ?_ ?_) ?_ ?_;rotate_left 5)
      | (refine CallL.gv0 (lw_heldPlanSeenS_c ?_ ?_ ?_) ?_ ?_;rotate_left 3)
      ); (focus ((repeat' (first | simp only [z1, z2, z3, Nat.reduceEqDiff, Nat.reduceLT, not_false_eq_true] | exact z28 | refine z29 ?_ ?_ | exact z31 | refine z32 ?_ ?_ | refine z30 ?_ | exact z33 | refine z34 rfl ?_ ?_ | refine z35 ?_ | exact z13 | exact z14 | exact z15 | exact z16 | refine z17 ?_ | refine z18 rfl ?_ | refine z19 rfl ?_ ?_ | (show lτ _ _ = some _; exact rfl) | exact z20 rfl rfl | refine z20 rfl ?_ | refine z21 ?_ | refine z23 ?_ | exact z24 | refine z25 ?_ rfl rfl ?_ | refine z22 ?_ | refine z26 ?_ rfl rfl ?_ ?_ | refine z27 ?_ rfl rfl ?_ ?_ ?_ | exact True.intro | exact z4 rfl | exact z5 | exact z6 | exact z7 | exact z8 | exact z9 | exact z10 | refine z36 ?_ | refine z37 rfl ?_ | exact z38 | exact z39 | refine z40 (xs := ?_) (ys := ?_) ?_ ?_ | refine z41 (xs := ?_) (ys := ?_) ?_ ?_ ?_ ?_ | refine z42 (xs := ?_) ?_ | refine z43 (xs := ?_) ?_ | refine z44 (x := ?_) (xs := ?_) ?_ ?_ | refine RowsAre.rep (x := ?_) (n := ?_) ?_ | (with_reducible show RowIs _ _ _; first | exact GTableRange_row _ | exact GTableRange_mk _ _ _ | exact GPlanSeen_row _ | exact GPlanSeen_mk _ _ _ | exact GTable_row _ | exact GTable_mk _ _ _ | exact GPlan_row _ | exact GPlan_mk _ _ _ _ _ _ _) | with_reducible exact rfl | (refine z11 ?_; omega) | (refine z12 ?_; omega) | simp only [List.length_append, List.length_map, List.length_cons, List.length_nil, List.length_set, List.length_replicate])); (all_goals (fail_if_success (with_reducible show FZ _ _))); (all_goals (fail_if_success (with_reducible show List.contains _ _ = true))); (all_goals (fail_if_success (with_reducible show False))); (all_goals (fail_if_success (with_reducible show VSub _ _ _ _ _ _))))))
    | ((first
      | (refine z46 (lw_heldTableRangeS_c ?_ ?_ ?_) rfl ?_ ?_;rotate_left 3)
      | (refine z46 (lw_heldTable_c ⟨?_,?_,?_⟩ ?_ ?_) rfl ?_ ?_;rotate_left 5)
      | (refine z46 (lw_heldPlanSeenS_c ?_ ?_ ?_) rfl ?_ ?_;rotate_left 3)
      ); (focus ((repeat' (first | simp only [z1, z2, z3, Nat.reduceEqDiff, Nat.reduceLT, not_false_eq_true] | exact z28 | refine z29 ?_ ?_ | exact z31 | refine z32 ?_ ?_ | refine z30 ?_ | exact z33 | refine z34 rfl ?_ ?_ | refine z35 ?_ | exact z13 | exact z14 | exact z15 | exact z16 | refine z17 ?_ | refine z18 rfl ?_ | refine z19 rfl ?_ ?_ | (show lτ _ _ = some _; exact rfl) | exact z20 rfl rfl | refine z20 rfl ?_ | refine z21 ?_ | refine z23 ?_ | exact z24 | refine z25 ?_ rfl rfl ?_ | refine z22 ?_ | refine z26 ?_ rfl rfl ?_ ?_ | refine z27 ?_ rfl rfl ?_ ?_ ?_ | exact True.intro | exact z4 rfl | exact z5 | exact z6 | exact z7 | exact z8 | exact z9 | exact z10 | refine z36 ?_ | refine z37 rfl ?_ | exact z38 | exact z39 | refine z40 (xs := ?_) (ys := ?_) ?_ ?_ | refine z41 (xs := ?_) (ys := ?_) ?_ ?_ ?_ ?_ | refine z42 (xs := ?_) ?_ | refine z43 (xs := ?_) ?_ | refine z44 (x := ?_) (xs := ?_) ?_ ?_ | refine RowsAre.rep (x := ?_) (n := ?_) ?_ | (with_reducible show RowIs _ _ _; first | exact GTableRange_row _ | exact GTableRange_mk _ _ _ | exact GPlanSeen_row _ | exact GPlanSeen_mk _ _ _ | exact GTable_row _ | exact GTable_mk _ _ _ | exact GPlan_row _ | exact GPlan_mk _ _ _ _ _ _ _) | with_reducible exact rfl | (refine z11 ?_; omega) | (refine z12 ?_; omega) | simp only [List.length_append, List.length_map, List.length_cons, List.length_nil, List.length_set, List.length_replicate])); (all_goals (fail_if_success (with_reducible show FZ _ _))); (all_goals (fail_if_success (with_reducible show List.contains _ _ = true))); (all_goals (fail_if_success (with_reducible show False))); (all_goals (fail_if_success (with_reducible show VSub _ _ _ _ _ _))))))
    | omega
    | (refine Tri.cond (b := ?_) ?_ ?_ ?_;rotate_left 1;focus (simp only [ev,z1,z2,Nat.reduceEqDiff,Nat.reduceLT,not_false_eq_true];exact rfl))
    | (intro h;(try simp only [decide_eq_true_eq,decide_eq_false_iff_not,Int.not_lt,Int.not_le,beq_iff_eq,bne_iff_ne,beq_eq_false_iff_ne,bne_eq_false_iff_eq,ne_eq,Bool.not_eq_true',Bool.not_eq_false',Decidable.not_not] at h);(try contradiction))
    | (refine Tri.skip ?_;try change Tri _ _ _ _ _ _)
    | (refine Tri.exit ?_;try change Tri _ _ _ _ _ _)
    | refine Tri.ret ?_
    | refine Tri.block ?_
    | refine Tri.seq ?_
    | ((first
      | (guard_hyp t0;refine Tri.loopN (ι := (List GTableRange) × Int × Nat) 2 rfl (fun j => mkR 34 [(0,.sl 0 3 0 j.1.length),(1,.lit (.int .i64 j.2.1)),(5,.lit (.int .i64 (j.2.2 : Int)))]) (fun j => [some (.rows 3 (fun x => (encGTableRange x).map AV.r) j.1)]) (fun j => lw_markTableRangeS_K1 j.1 j.2.1 j.2.2 = lw_markTableRangeS a k ∧ (j.2.2 : Int) ≤ (j.1.length : Int) ∧ j.1.length ≤ 2147483648) (fun j => ((j.1.length : Int) - (j.2.2 : Int)).toNat) (?_,?_,0) (Ent.places [.slot 0] _ (by simp only [go_sem,reduceCtorEq,Nat.reduceAdd,Nat.reduceSub,Nat.reduceMul,Nat.reduceLeDiff,Nat.reduceLT,Nat.reduceEqDiff];rfl) rfl rfl (by simp) ?_ ?_) ?_ ?_;rotate_left 5;(focus (rintro ⟨a,k,i⟩ ⟨hM,hI⟩;(try dsimp only at hM hI)));rotate_right 3)
      | (guard_hyp t1;refine Tri.loopN (ι := (List GPlanSeen) × Int × Nat) 2 rfl (fun j => mkR 34 [(0,.sl 0 3 0 j.1.length),(1,.lit (.int .i64 j.2.1)),(5,.lit (.int .i64 (j.2.2 : Int)))]) (fun j => [some (.rows 3 (fun x => (encGPlanSeen x).map AV.r) j.1)]) (fun j => lw_markPlanSeenS_K1 j.1 j.2.1 j.2.2 = lw_markPlanSeenS a k ∧ (j.2.2 : Int) ≤ (j.1.length : Int) ∧ j.1.length ≤ 2147483648) (fun j => ((j.1.length : Int) - (j.2.2 : Int)).toNat) (?_,?_,0) (Ent.places [.slot 0] _ (by simp only [go_sem,reduceCtorEq,Nat.reduceAdd,Nat.reduceSub,Nat.reduceMul,Nat.reduceLeDiff,Nat.reduceLT,Nat.reduceEqDiff];rfl) rfl rfl (by simp) ?_ ?_) ?_ ?_;rotate_left 5;(focus (rintro ⟨a,k,i⟩ ⟨hM,hI⟩;(try dsimp only at hM hI)));rotate_right 3)
      | (guard_hyp t2;refine Tri.loopN (ι := Int × Nat) 2 rfl (fun j => mkR 40 [(0,.r (.rd 3 encGTableRange a)),(1,.lit (.int .i64 j.1)),(5,.lit (.int .i64 (j.2 : Int)))]) (fun j => []) (fun j => lw_heldTableRangeS_K1 a j.1 j.2 = lw_heldTableRangeS a k ∧ (j.2 : Int) ≤ (a.length : Int)) (fun j => ((a.length : Int) - (j.2 : Int)).toNat) (?_,0) (Ent.places [] _ (by simp only [go_sem,reduceCtorEq,Nat.reduceAdd,Nat.reduceSub,Nat.reduceMul,Nat.reduceLeDiff,Nat.reduceLT,Nat.reduceEqDiff];rfl) rfl rfl (Nat.zero_le _) ?_ ?_) ?_ ?_;rotate_left 4;(focus (rintro ⟨k,i⟩ ⟨hM,hI⟩;(try dsimp only at hM hI)));rotate_right 3)
      | (guard_hyp t4;refine Tri.loopN (ι := Int × Nat) 2 rfl (fun j => mkR 40 [(0,.r (.rd 3 encGPlanSeen a)),(1,.lit (.int .i64 j.1)),(5,.lit (.int .i64 (j.2 : Int)))]) (fun j => []) (fun j => lw_heldPlanSeenS_K1 a j.1 j.2 = lw_heldPlanSeenS a k ∧ (j.2 : Int) ≤ (a.length : Int)) (fun j => ((a.length : Int) - (j.2 : Int)).toNat) (?_,0) (Ent.places [] _ (by simp only [go_sem,reduceCtorEq,Nat.reduceAdd,Nat.reduceSub,Nat.reduceMul,Nat.reduceLeDiff,Nat.reduceLT,Nat.reduceEqDiff];rfl) rfl rfl (Nat.zero_le _) ?_ ?_) ?_ ?_;rotate_left 4;(focus (rintro ⟨k,i⟩ ⟨hM,hI⟩;(try dsimp only at hM hI)));rotate_right 3)
      ); (focus (repeat' (first | simp only [z1, z2, z3, Nat.reduceEqDiff, Nat.reduceLT, not_false_eq_true] | exact z28 | refine z29 ?_ ?_ | exact z31 | refine z32 ?_ ?_ | refine z30 ?_ | exact z33 | refine z34 rfl ?_ ?_ | refine z35 ?_ | exact z13 | exact z14 | exact z15 | exact z16 | refine z17 ?_ | refine z18 rfl ?_ | refine z19 rfl ?_ ?_ | (show lτ _ _ = some _; exact rfl) | exact z20 rfl rfl | refine z20 rfl ?_ | refine z21 ?_ | refine z23 ?_ | exact z24 | refine z25 ?_ rfl rfl ?_ | refine z22 ?_ | refine z26 ?_ rfl rfl ?_ ?_ | refine z27 ?_ rfl rfl ?_ ?_ ?_ | exact True.intro | exact z4 rfl | exact z5 | exact z6 | exact z7 | exact z8 | exact z9 | exact z10 | refine z36 ?_ | refine z37 rfl ?_ | exact z38 | exact z39 | refine z40 (xs := ?_) (ys := ?_) ?_ ?_ | refine z41 (xs := ?_) (ys := ?_) ?_ ?_ ?_ ?_ | refine z42 (xs := ?_) ?_ | refine z43 (xs := ?_) ?_ | refine z44 (x := ?_) (xs := ?_) ?_ ?_ | refine RowsAre.rep (x := ?_) (n := ?_) ?_ | (with_reducible show RowIs _ _ _; first | exact GTableRange_row _ | exact GTableRange_mk _ _ _ | exact GPlanSeen_row _ | exact GPlanSeen_mk _ _ _ | exact GTable_row _ | exact GTable_mk _ _ _ | exact GPlan_row _ | exact GPlan_mk _ _ _ _ _ _ _) | with_reducible exact rfl | (refine z11 ?_; omega) | (refine z12 ?_; omega) | simp only [List.length_append, List.length_map, List.length_cons, List.length_nil, List.length_set, List.length_replicate]))); (focus (repeat' (first | simp only [z1, z2, z3, Nat.reduceEqDiff, Nat.reduceLT, not_false_eq_true] | exact z28 | refine z29 ?_ ?_ | exact z31 | refine z32 ?_ ?_ | refine z30 ?_ | exact z33 | refine z34 rfl ?_ ?_ | refine z35 ?_ | exact z13 | exact z14 | exact z15 | exact z16 | refine z17 ?_ | refine z18 rfl ?_ | refine z19 rfl ?_ ?_ | (show lτ _ _ = some _; exact rfl) | exact z20 rfl rfl | refine z20 rfl ?_ | refine z21 ?_ | refine z23 ?_ | exact z24 | refine z25 ?_ rfl rfl ?_ | refine z22 ?_ | refine z26 ?_ rfl rfl ?_ ?_ | refine z27 ?_ rfl rfl ?_ ?_ ?_ | exact True.intro | exact z4 rfl | exact z5 | exact z6 | exact z7 | exact z8 | exact z9 | exact z10 | refine z36 ?_ | refine z37 rfl ?_ | exact z38 | exact z39 | refine z40 (xs := ?_) (ys := ?_) ?_ ?_ | refine z41 (xs := ?_) (ys := ?_) ?_ ?_ ?_ ?_ | refine z42 (xs := ?_) ?_ | refine z43 (xs := ?_) ?_ | refine z44 (x := ?_) (xs := ?_) ?_ ?_ | refine RowsAre.rep (x := ?_) (n := ?_) ?_ | (with_reducible show RowIs _ _ _; first | exact GTableRange_row _ | exact GTableRange_mk _ _ _ | exact GPlanSeen_row _ | exact GPlanSeen_mk _ _ _ | exact GTable_row _ | exact GTable_mk _ _ _ | exact GPlan_row _ | exact GPlan_mk _ _ _ _ _ _ _) | with_reducible exact rfl | (refine z11 ?_; omega) | (refine z12 ?_; omega) | simp only [List.length_append, List.length_map, List.length_cons, List.length_nil, List.length_set, List.length_replicate]))); rotate_left 1)
    | ((first
      | (guard_hyp t0;refine backK (?_,?_,(i + 1)) (Ent.places [.slot 0] _ (by simp only [go_sem,reduceCtorEq,Nat.reduceAdd,Nat.reduceSub,Nat.reduceMul,Nat.reduceLeDiff,Nat.reduceLT,Nat.reduceEqDiff];rfl) rfl rfl (by simp) ?_ ?_) ?_ ?_;rotate_left 2;rotate_left 3;(focus ((try dsimp only);omega));rotate_right 3)
      | (guard_hyp t1;refine backK (?_,?_,(i + 1)) (Ent.places [.slot 0] _ (by simp only [go_sem,reduceCtorEq,Nat.reduceAdd,Nat.reduceSub,Nat.reduceMul,Nat.reduceLeDiff,Nat.reduceLT,Nat.reduceEqDiff];rfl) rfl rfl (by simp) ?_ ?_) ?_ ?_;rotate_left 2;rotate_left 3;(focus ((try dsimp only);omega));rotate_right 3)
      | (guard_hyp t2;refine backK (?_,(i + 1)) (Ent.places [] _ (by simp only [go_sem,reduceCtorEq,Nat.reduceAdd,Nat.reduceSub,Nat.reduceMul,Nat.reduceLeDiff,Nat.reduceLT,Nat.reduceEqDiff];rfl) rfl rfl (Nat.zero_le _) ?_ ?_) ?_ ?_;rotate_left 1;rotate_left 3;(focus ((try dsimp only);omega));rotate_right 3)
      | (guard_hyp t4;refine backK (?_,(i + 1)) (Ent.places [] _ (by simp only [go_sem,reduceCtorEq,Nat.reduceAdd,Nat.reduceSub,Nat.reduceMul,Nat.reduceLeDiff,Nat.reduceLT,Nat.reduceEqDiff];rfl) rfl rfl (Nat.zero_le _) ?_ ?_) ?_ ?_;rotate_left 1;rotate_left 3;(focus ((try dsimp only);omega));rotate_right 3)
      ); (focus (repeat' (first | simp only [z1, z2, z3, Nat.reduceEqDiff, Nat.reduceLT, not_false_eq_true] | exact z28 | refine z29 ?_ ?_ | exact z31 | refine z32 ?_ ?_ | refine z30 ?_ | exact z33 | refine z34 rfl ?_ ?_ | refine z35 ?_ | exact z13 | exact z14 | exact z15 | exact z16 | refine z17 ?_ | refine z18 rfl ?_ | refine z19 rfl ?_ ?_ | (show lτ _ _ = some _; exact rfl) | exact z20 rfl rfl | refine z20 rfl ?_ | refine z21 ?_ | refine z23 ?_ | exact z24 | refine z25 ?_ rfl rfl ?_ | refine z22 ?_ | refine z26 ?_ rfl rfl ?_ ?_ | refine z27 ?_ rfl rfl ?_ ?_ ?_ | exact True.intro | exact z4 rfl | exact z5 | exact z6 | exact z7 | exact z8 | exact z9 | exact z10 | refine z36 ?_ | refine z37 rfl ?_ | exact z38 | exact z39 | refine z40 (xs := ?_) (ys := ?_) ?_ ?_ | refine z41 (xs := ?_) (ys := ?_) ?_ ?_ ?_ ?_ | refine z42 (xs := ?_) ?_ | refine z43 (xs := ?_) ?_ | refine z44 (x := ?_) (xs := ?_) ?_ ?_ | refine RowsAre.rep (x := ?_) (n := ?_) ?_ | (with_reducible show RowIs _ _ _; first | exact GTableRange_row _ | exact GTableRange_mk _ _ _ | exact GPlanSeen_row _ | exact GPlanSeen_mk _ _ _ | exact GTable_row _ | exact GTable_mk _ _ _ | exact GPlan_row _ | exact GPlan_mk _ _ _ _ _ _ _) | with_reducible exact rfl | (refine z11 ?_; omega) | (refine z12 ?_; omega) | simp only [List.length_append, List.length_map, List.length_cons, List.length_nil, List.length_set, List.length_replicate]))); (focus (repeat' (first | simp only [z1, z2, z3, Nat.reduceEqDiff, Nat.reduceLT, not_false_eq_true] | exact z28 | refine z29 ?_ ?_ | exact z31 | refine z32 ?_ ?_ | refine z30 ?_ | exact z33 | refine z34 rfl ?_ ?_ | refine z35 ?_ | exact z13 | exact z14 | exact z15 | exact z16 | refine z17 ?_ | refine z18 rfl ?_ | refine z19 rfl ?_ ?_ | (show lτ _ _ = some _; exact rfl) | exact z20 rfl rfl | refine z20 rfl ?_ | refine z21 ?_ | refine z23 ?_ | exact z24 | refine z25 ?_ rfl rfl ?_ | refine z22 ?_ | refine z26 ?_ rfl rfl ?_ ?_ | refine z27 ?_ rfl rfl ?_ ?_ ?_ | exact True.intro | exact z4 rfl | exact z5 | exact z6 | exact z7 | exact z8 | exact z9 | exact z10 | refine z36 ?_ | refine z37 rfl ?_ | exact z38 | exact z39 | refine z40 (xs := ?_) (ys := ?_) ?_ ?_ | refine z41 (xs := ?_) (ys := ?_) ?_ ?_ ?_ ?_ | refine z42 (xs := ?_) ?_ | refine z43 (xs := ?_) ?_ | refine z44 (x := ?_) (xs := ?_) ?_ ?_ | refine RowsAre.rep (x := ?_) (n := ?_) ?_ | (with_reducible show RowIs _ _ _; first | exact GTableRange_row _ | exact GTableRange_mk _ _ _ | exact GPlanSeen_row _ | exact GPlanSeen_mk _ _ _ | exact GTable_row _ | exact GTable_mk _ _ _ | exact GPlan_row _ | exact GPlan_mk _ _ _ _ _ _ _) | with_reducible exact rfl | (refine z11 ?_; omega) | (refine z12 ?_; omega) | simp only [List.length_append, List.length_map, List.length_cons, List.length_nil, List.length_set, List.length_replicate]))))
    | ((first
      | (guard_hyp t0;refine backK (?_,?_,(i + 1)) (Ent.places [.slot 0] _ (by simp only [go_sem,reduceCtorEq,Nat.reduceAdd,Nat.reduceSub,Nat.reduceMul,Nat.reduceLeDiff,Nat.reduceLT,Nat.reduceEqDiff];rfl) rfl rfl (by simp) ?_ ?_) ?_ ?_;rotate_left 2)
      | (guard_hyp t1;refine backK (?_,?_,(i + 1)) (Ent.places [.slot 0] _ (by simp only [go_sem,reduceCtorEq,Nat.reduceAdd,Nat.reduceSub,Nat.reduceMul,Nat.reduceLeDiff,Nat.reduceLT,Nat.reduceEqDiff];rfl) rfl rfl (by simp) ?_ ?_) ?_ ?_;rotate_left 2)
      | (guard_hyp t2;refine backK (?_,(i + 1)) (Ent.places [] _ (by simp only [go_sem,reduceCtorEq,Nat.reduceAdd,Nat.reduceSub,Nat.reduceMul,Nat.reduceLeDiff,Nat.reduceLT,Nat.reduceEqDiff];rfl) rfl rfl (Nat.zero_le _) ?_ ?_) ?_ ?_;rotate_left 1)
      | (guard_hyp t4;refine backK (?_,(i + 1)) (Ent.places [] _ (by simp only [go_sem,reduceCtorEq,Nat.reduceAdd,Nat.reduceSub,Nat.reduceMul,Nat.reduceLeDiff,Nat.reduceLT,Nat.reduceEqDiff];rfl) rfl rfl (Nat.zero_le _) ?_ ?_) ?_ ?_;rotate_left 1)
      ); (focus (repeat' (first | simp only [z1, z2, z3, Nat.reduceEqDiff, Nat.reduceLT, not_false_eq_true] | exact z28 | refine z29 ?_ ?_ | exact z31 | refine z32 ?_ ?_ | refine z30 ?_ | exact z33 | refine z34 rfl ?_ ?_ | refine z35 ?_ | exact z13 | exact z14 | exact z15 | exact z16 | refine z17 ?_ | refine z18 rfl ?_ | refine z19 rfl ?_ ?_ | (show lτ _ _ = some _; exact rfl) | exact z20 rfl rfl | refine z20 rfl ?_ | refine z21 ?_ | refine z23 ?_ | exact z24 | refine z25 ?_ rfl rfl ?_ | refine z22 ?_ | refine z26 ?_ rfl rfl ?_ ?_ | refine z27 ?_ rfl rfl ?_ ?_ ?_ | exact True.intro | exact z4 rfl | exact z5 | exact z6 | exact z7 | exact z8 | exact z9 | exact z10 | refine z36 ?_ | refine z37 rfl ?_ | exact z38 | exact z39 | refine z40 (xs := ?_) (ys := ?_) ?_ ?_ | refine z41 (xs := ?_) (ys := ?_) ?_ ?_ ?_ ?_ | refine z42 (xs := ?_) ?_ | refine z43 (xs := ?_) ?_ | refine z44 (x := ?_) (xs := ?_) ?_ ?_ | refine RowsAre.rep (x := ?_) (n := ?_) ?_ | (with_reducible show RowIs _ _ _; first | exact GTableRange_row _ | exact GTableRange_mk _ _ _ | exact GPlanSeen_row _ | exact GPlanSeen_mk _ _ _ | exact GTable_row _ | exact GTable_mk _ _ _ | exact GPlan_row _ | exact GPlan_mk _ _ _ _ _ _ _) | with_reducible exact rfl | (refine z11 ?_; omega) | (refine z12 ?_; omega) | simp only [List.length_append, List.length_map, List.length_cons, List.length_nil, List.length_set, List.length_replicate]))); (focus (repeat' (first | simp only [z1, z2, z3, Nat.reduceEqDiff, Nat.reduceLT, not_false_eq_true] | exact z28 | refine z29 ?_ ?_ | exact z31 | refine z32 ?_ ?_ | refine z30 ?_ | exact z33 | refine z34 rfl ?_ ?_ | refine z35 ?_ | exact z13 | exact z14 | exact z15 | exact z16 | refine z17 ?_ | refine z18 rfl ?_ | refine z19 rfl ?_ ?_ | (show lτ _ _ = some _; exact rfl) | exact z20 rfl rfl | refine z20 rfl ?_ | refine z21 ?_ | refine z23 ?_ | exact z24 | refine z25 ?_ rfl rfl ?_ | refine z22 ?_ | refine z26 ?_ rfl rfl ?_ ?_ | refine z27 ?_ rfl rfl ?_ ?_ ?_ | exact True.intro | exact z4 rfl | exact z5 | exact z6 | exact z7 | exact z8 | exact z9 | exact z10 | refine z36 ?_ | refine z37 rfl ?_ | exact z38 | exact z39 | refine z40 (xs := ?_) (ys := ?_) ?_ ?_ | refine z41 (xs := ?_) (ys := ?_) ?_ ?_ ?_ ?_ | refine z42 (xs := ?_) ?_ | refine z43 (xs := ?_) ?_ | refine z44 (x := ?_) (xs := ?_) ?_ ?_ | refine RowsAre.rep (x := ?_) (n := ?_) ?_ | (with_reducible show RowIs _ _ _; first | exact GTableRange_row _ | exact GTableRange_mk _ _ _ | exact GPlanSeen_row _ | exact GPlanSeen_mk _ _ _ | exact GTable_row _ | exact GTable_mk _ _ _ | exact GPlan_row _ | exact GPlan_mk _ _ _ _ _ _ _) | with_reducible exact rfl | (refine z11 ?_; omega) | (refine z12 ?_; omega) | simp only [List.length_append, List.length_map, List.length_cons, List.length_nil, List.length_set, List.length_replicate]))); rotate_left 1; (focus ((try dsimp only); first | omega | (simp only [List.length_set, List.length_append, List.length_cons, List.length_nil]; omega))))
    | ((first
      | (guard_hyp t0;refine EndK.eqq (p := 1) (vs := ?_) (f := fun x : Int × (List GTableRange) => .lit (.int .i64 x.1)) (g := fun x : Int × (List GTableRange) => [some (.rows 3 (fun q => (encGTableRange q).map AV.r) x.2)]) (?_,?_) [some 0] (by first|exact .inr rfl|exact .inl rfl) ?_ ?_ ?_ (by simp) ?_ ?_ ?_;rotate_left 3)
      | (guard_hyp t1;refine EndK.eqq (p := 1) (vs := ?_) (f := fun x : Int × (List GPlanSeen) => .lit (.int .i64 x.1)) (g := fun x : Int × (List GPlanSeen) => [some (.rows 3 (fun q => (encGPlanSeen q).map AV.r) x.2)]) (?_,?_) [some 0] (by first|exact .inr rfl|exact .inl rfl) ?_ ?_ ?_ (by simp) ?_ ?_ ?_;rotate_left 3)
      ); (focus (simp only [go_sem, reduceCtorEq, Nat.reduceAdd, Nat.reduceSub, Nat.reduceMul, Nat.reduceLeDiff, Nat.reduceLT, Nat.reduceEqDiff]; exact rfl)); rotate_left 3; (focus (repeat' (first | simp only [z1, z2, z3, Nat.reduceEqDiff, Nat.reduceLT, not_false_eq_true] | exact z28 | refine z29 ?_ ?_ | exact z31 | refine z32 ?_ ?_ | refine z30 ?_ | exact z33 | refine z34 rfl ?_ ?_ | refine z35 ?_ | exact z13 | exact z14 | exact z15 | exact z16 | refine z17 ?_ | refine z18 rfl ?_ | refine VSub.slD rfl ?_ ?_ | (show lτ _ _ = some _; exact rfl) | exact z20 rfl rfl | refine z20 rfl ?_ | refine z21 ?_ | refine z23 ?_ | exact z24 | refine z25 ?_ rfl rfl ?_ | refine z22 ?_ | refine z26 ?_ rfl rfl ?_ ?_ | refine z27 ?_ rfl rfl ?_ ?_ ?_ | exact True.intro | exact z4 rfl | exact z5 | exact z6 | exact z7 | exact z8 | exact z9 | exact z10 | refine z36 ?_ | refine z37 rfl ?_ | exact z38 | exact z39 | refine z40 (xs := ?_) (ys := ?_) ?_ ?_ | refine z41 (xs := ?_) (ys := ?_) ?_ ?_ ?_ ?_ | refine z42 (xs := ?_) ?_ | refine z43 (xs := ?_) ?_ | refine z44 (x := ?_) (xs := ?_) ?_ ?_ | refine RowsAre.rep (x := ?_) (n := ?_) ?_ | (with_reducible show RowIs _ _ _; first | exact GTableRange_row _ | exact GTableRange_mk _ _ _ | exact GPlanSeen_row _ | exact GPlanSeen_mk _ _ _ | exact GTable_row _ | exact GTable_mk _ _ _ | exact GPlan_row _ | exact GPlan_mk _ _ _ _ _ _ _) | with_reducible exact rfl | (refine z11 ?_; omega) | (refine z12 ?_; omega) | simp only [List.length_append, List.length_map, List.length_cons, List.length_nil, List.length_set, List.length_replicate]))); rotate_right 1; (focus (repeat' (first | simp only [z1, z2, z3, Nat.reduceEqDiff, Nat.reduceLT, not_false_eq_true] | exact z28 | refine z29 ?_ ?_ | exact z31 | refine z32 ?_ ?_ | refine z30 ?_ | exact z33 | refine z34 rfl ?_ ?_ | refine z35 ?_ | exact z13 | exact z14 | exact z15 | exact z16 | refine z17 ?_ | refine z18 rfl ?_ | refine VSub.slD rfl ?_ ?_ | (show lτ _ _ = some _; exact rfl) | exact z20 rfl rfl | refine z20 rfl ?_ | refine z21 ?_ | refine z23 ?_ | exact z24 | refine z25 ?_ rfl rfl ?_ | refine z22 ?_ | refine z26 ?_ rfl rfl ?_ ?_ | refine z27 ?_ rfl rfl ?_ ?_ ?_ | exact True.intro | exact z4 rfl | exact z5 | exact z6 | exact z7 | exact z8 | exact z9 | exact z10 | refine z36 ?_ | refine z37 rfl ?_ | exact z38 | exact z39 | refine z40 (xs := ?_) (ys := ?_) ?_ ?_ | refine z41 (xs := ?_) (ys := ?_) ?_ ?_ ?_ ?_ | refine z42 (xs := ?_) ?_ | refine z43 (xs := ?_) ?_ | refine z44 (x := ?_) (xs := ?_) ?_ ?_ | refine RowsAre.rep (x := ?_) (n := ?_) ?_ | (with_reducible show RowIs _ _ _; first | exact GTableRange_row _ | exact GTableRange_mk _ _ _ | exact GPlanSeen_row _ | exact GPlanSeen_mk _ _ _ | exact GTable_row _ | exact GTable_mk _ _ _ | exact GPlan_row _ | exact GPlan_mk _ _ _ _ _ _ _) | with_reducible exact rfl | (refine z11 ?_; omega) | (refine z12 ?_; omega) | simp only [List.length_append, List.length_map, List.length_cons, List.length_nil, List.length_set, List.length_replicate]))); (all_goals (try (with_reducible refine LenEq.mk ?_); try with_reducible exact rfl)); (all_goals (try (with_reducible refine BoolIs.mk ?_); exact rfl)))
    | ((first
      | (guard_hyp t2;refine EndK.eqv (vs := ?_) (f := fun x : Int => .lit (.int .i64 x)) ?_ (by first|exact .inr rfl|exact .inl rfl) ?_ ?_ ?_;rotate_left 2)
      | (guard_hyp t3;refine EndK.eqv (vs := ?_) (f := fun x : Int => .lit (.int .i64 x)) ?_ (by first|exact .inr rfl|exact .inl rfl) ?_ ?_ ?_;rotate_left 2)
      | (guard_hyp t4;refine EndK.eqv (vs := ?_) (f := fun x : Int => .lit (.int .i64 x)) ?_ (by first|exact .inr rfl|exact .inl rfl) ?_ ?_ ?_;rotate_left 2)
      | (guard_hyp t5;refine EndK.eqv (vs := ?_) (f := fun x : Int => .lit (.int .i64 x)) ?_ (by first|exact .inr rfl|exact .inl rfl) ?_ ?_ ?_;rotate_left 2)
      ); (focus (simp only [go_sem, reduceCtorEq, Nat.reduceAdd, Nat.reduceSub, Nat.reduceMul, Nat.reduceLeDiff, Nat.reduceLT, Nat.reduceEqDiff]; exact rfl)); (focus (repeat' (first | simp only [z1, z2, z3, Nat.reduceEqDiff, Nat.reduceLT, not_false_eq_true] | exact z28 | refine z29 ?_ ?_ | exact z31 | refine z32 ?_ ?_ | refine z30 ?_ | exact z33 | refine z34 rfl ?_ ?_ | refine z35 ?_ | exact z13 | exact z14 | exact z15 | exact z16 | refine z17 ?_ | refine z18 rfl ?_ | refine z19 rfl ?_ ?_ | (show lτ _ _ = some _; exact rfl) | exact z20 rfl rfl | refine z20 rfl ?_ | refine z21 ?_ | refine z23 ?_ | exact z24 | refine z25 ?_ rfl rfl ?_ | refine z22 ?_ | refine z26 ?_ rfl rfl ?_ ?_ | refine z27 ?_ rfl rfl ?_ ?_ ?_ | exact True.intro | exact z4 rfl | exact z5 | exact z6 | exact z7 | exact z8 | exact z9 | exact z10 | refine z36 ?_ | refine z37 rfl ?_ | exact z38 | exact z39 | refine z40 (xs := ?_) (ys := ?_) ?_ ?_ | refine z41 (xs := ?_) (ys := ?_) ?_ ?_ ?_ ?_ | refine z42 (xs := ?_) ?_ | refine z43 (xs := ?_) ?_ | refine z44 (x := ?_) (xs := ?_) ?_ ?_ | refine RowsAre.rep (x := ?_) (n := ?_) ?_ | (with_reducible show RowIs _ _ _; first | exact GTableRange_row _ | exact GTableRange_mk _ _ _ | exact GPlanSeen_row _ | exact GPlanSeen_mk _ _ _ | exact GTable_row _ | exact GTable_mk _ _ _ | exact GPlan_row _ | exact GPlan_mk _ _ _ _ _ _ _) | with_reducible exact rfl | (refine z11 ?_; omega) | (refine z12 ?_; omega) | simp only [List.length_append, List.length_map, List.length_cons, List.length_nil, List.length_set, List.length_replicate])))))
  all_goals (try clear h1); all_goals (try clear K1); all_goals (try clear hK); all_goals (try clear K); all_goals (try dsimp only); all_goals (try simp only [Bool.not_eq_false', Bool.not_eq_true', decide_eq_true_eq, decide_eq_false_iff_not] at *); all_goals (try simp only [GTableRange_eta, GPlanSeen_eta, GTable_eta, GPlan_eta] at *); all_goals (try clear lw_heldTableRangeS_c); all_goals (try clear lw_heldTable_c); all_goals (try clear lw_heldPlanSeenS_c)
  all_goals first
    | omega
    | (guard_hyp t0;first|((simp only [List.length_set];omega)))
    | (guard_hyp t1;first|((simp only [List.length_set];omega)))
    | (simp only [List.length_cons,List.length_nil,Nat.reduceAdd];done)
    | (simp only [List.length_set,List.length_append,List.length_cons,List.length_nil,List.length_map,List.length_take,List.length_drop];omega)
    | (obtain ⟨x,_,rfl⟩ := List.mem_map.1 (by assumption);rfl)
    | (obtain ⟨x,_,rfl⟩ := List.mem_map.1 (List.mem_of_mem_take (by assumption));rfl)
    | (obtain ⟨x,_,rfl⟩ := List.mem_map.1 (List.mem_of_mem_drop (List.mem_of_mem_take (by assumption)));rfl)
    | (simp (disch := omega) only [wr_id];omega)
    | (guard_hyp t0;first|(rw [lw_markTableRangeS_K1,lw_markTableRangeS_L1] at hM;rw [lw_markTableRangeS_K1];all_goals grind)|(rw [lw_markTableRangeS_K1,lw_markTableRangeS_L1] at hM;grind)|(rw [lw_markTableRangeS];all_goals first|grind|(repeat' split) <;> first|rfl|grind))
    | (guard_hyp t1;first|(rw [lw_markPlanSeenS_K1,lw_markPlanSeenS_L1] at hM;rw [lw_markPlanSeenS_K1];all_goals grind)|(rw [lw_markPlanSeenS_K1,lw_markPlanSeenS_L1] at hM;grind)|(rw [lw_markPlanSeenS];all_goals first|grind|(repeat' split) <;> first|rfl|grind))
    | (guard_hyp t2;first|(rw [lw_heldTableRangeS_K1,lw_heldTableRangeS_L1] at hM;rw [lw_heldTableRangeS_K1];all_goals grind)|(rw [lw_heldTableRangeS_K1,lw_heldTableRangeS_L1] at hM;grind)|(rw [lw_heldTableRangeS];all_goals first|grind|(repeat' split) <;> first|rfl|grind))
    | (guard_hyp t3;first|(rw [lw_heldTable];all_goals first|grind|(repeat' split) <;> first|rfl|grind))
    | (guard_hyp t4;first|(rw [lw_heldPlanSeenS_K1,lw_heldPlanSeenS_L1] at hM;rw [lw_heldPlanSeenS_K1];all_goals grind)|(rw [lw_heldPlanSeenS_K1,lw_heldPlanSeenS_L1] at hM;grind)|(rw [lw_heldPlanSeenS];all_goals first|grind|(repeat' split) <;> first|rfl|grind))
    | (guard_hyp t5;first|(rw [lw_heldPlan];all_goals first|grind|(repeat' split) <;> first|rfl|grind))
    | grind)
theorem lw_markTableRangeS_c : Slw_markTableRangeS_c := layK21.1
theorem lw_markPlanSeenS_c : Slw_markPlanSeenS_c := layK21.2.1
theorem lw_heldTableRangeS_c : Slw_heldTableRangeS_c := layK21.2.2.1
theorem lw_heldTable_c : Slw_heldTable_c := layK21.2.2.2.1 lw_heldTableRangeS_c
theorem lw_heldPlanSeenS_c : Slw_heldPlanSeenS_c := layK21.2.2.2.2.1
theorem lw_heldPlan_c : Slw_heldPlan_c := layK21.2.2.2.2.2 lw_heldTable_c lw_heldPlanSeenS_c
end Go.Proofs.YtlojldccjmkikaaGreat
end
section
namespace Go.Proofs.YtlojldccjmkikaaGreat
open Go.Ae
theorem markTableRangeS_Ln (a : List GTableRange) (k : Int) (i : Nat) : (lw_markTableRangeS_L1 a k i).1.length = a.length := by
  fun_induction lw_markTableRangeS_L1 a k i <;> simp_all +zetaDelta [List.length_set]
theorem markTableRangeS_len (a : List GTableRange) (k : Int) : (lw_markTableRangeS a k).2.length = a.length := markTableRangeS_Ln a k 0
theorem markPlanSeenS_Ln (a : List GPlanSeen) (k : Int) (i : Nat) : (lw_markPlanSeenS_L1 a k i).1.length = a.length := by
  fun_induction lw_markPlanSeenS_L1 a k i <;> simp_all +zetaDelta [List.length_set]
theorem markPlanSeenS_len (a : List GPlanSeen) (k : Int) : (lw_markPlanSeenS a k).2.length = a.length := markPlanSeenS_Ln a k 0
end Go.Proofs.YtlojldccjmkikaaGreat
end
