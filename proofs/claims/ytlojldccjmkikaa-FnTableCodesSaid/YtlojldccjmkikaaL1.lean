/- The contract of the law FnTableCodes: it hands back what its plain model does. -/
import Derived.Test.YtlojldccjmkikaaF1
import Derived.Test.YtlojldccjmkikaaA4
set_option linter.unusedVariables false
set_option linter.unusedSimpArgs false
namespace Go.Proofs.Ytlojldccjmkikaa
open Go.Ae
open Go.Ae renaming getR_eq → z1, getR_ne → z2, getR_nil → z3, lF_mk → z4, cont1 → z5, cont2a → z6, cont2b → z7, cont3a → z8, cont3b → z9, cont3c → z10, wr_up → z11, wr_dn → z12
open Go.Ae.VSub renaming any' → z13, same → z14, nilRd → z15, mtRd → z16, lit → z17, ptr' → z18, sl' → z19, slD → z20, slNil → z21, agg' → z22, tup' → z23, fn' → z24, rpSame → z25, rpF → z26, frz → z27, frzC → z28
open Go.Ae.LSub renaming nil' → z29, cons' → z30, mkR' → z31
open Go.Ae.SSub renaming nil' → z32, cons' → z33
open Go.Ae.HTell renaming nil' → z34, some' → z35, freshRows → z36
open Go.Ae.BSub renaming cells' → z37, own → z38
open Go.Ae.RowsAre renaming map → z39, nil → z40, app → z41, spl → z42, take → z43, drop → z44, cons → z45
open Go.Ae.CallA renaming frameq → z46, frameLq → z47, gv0 → z48, gvA → z49, lend → z50
open Go.Ae.LenEq renaming mk → z51
open Go.Ae.BoolIs renaming mk → z52
set_option linter.unusedSimpArgs false
set_option linter.unusedVariables false
attribute [local irreducible] wr bitsOf VSub LSub SSub HTell BSub RowIs RowsAre Ent lF mkR
def lw_FnTableCodes_L1 (t : GTable) (at_ : Int) (to_ : Int) (ok : Bool) (i : Nat) : Fl (Bool) (Unit) :=
  if h0 : ((i : Int) < 5) then
      let q := (im_TableSplit t at_)
      let x := q.1
      let n := q.2
      let q := (sp_TableSplit t at_)
      let want := q.1
      let told := q.2
      let q := if ((i : Int) = 1) then
          let q := (im_TableMerge t at_)
          let x := q.1
          let n := q.2
          let q := (sp_TableMerge t at_)
          let want := q.1
          let told := q.2
          (x, n, want, told)
        else if ((i : Int) = 2) then
          let q := (im_TableMove t at_ to_)
          let x := q.1
          let n := q.2
          let q := (sp_TableMove t at_ to_)
          let want := q.1
          let told := q.2
          (x, n, want, told)
        else if ((i : Int) = 3) then
          let q := (im_TableJoin t to_)
          let x := q.1
          let n := q.2
          let q := (sp_TableJoin t to_)
          let want := q.1
          let told := q.2
          (x, n, want, told)
        else if ((i : Int) = 4) then
          let q := (im_TableLeave t to_)
          let x := q.1
          let n := q.2
          let q := (sp_TableLeave t to_)
          let want := q.1
          let told := q.2
          (x, n, want, told)
        else 
          (x, n, want, told)
      let x := q.1
      let n := q.2.1
      let want := q.2.2.1
      let told := q.2.2.2
      if ((n ≠ told) ∨ ((lw_lcTable x want) = false)) then
        .ret false
      else 
        if (((((ok = true) ∧ (n ≠ 0)) ∧ ((lw_lcTable x t) = false)) ∨ ((n = 0) ∧ (((im_TableOk x) = false) ∨ (x.Epoch ≠ (wr .i64 (t.Epoch + 1)))))) ∨ ((ok = false) ∧ ((n ≠ 10) ∨ ((x.Ranges.length : Int) > 0)))) then
          .ret false
        else 
          lw_FnTableCodes_L1 t at_ to_ ok (i + 1)
  else .go ()
termination_by (5 - (i : Int)).toNat
decreasing_by all_goals omega
def lw_FnTableCodes_K1 (t : GTable) (at_ : Int) (to_ : Int) (ok : Bool) (i : Nat) : Bool :=
  match lw_FnTableCodes_L1 t at_ to_ ok i with
  | .ret rr => rr
  | .go q =>
    true
def lw_FnTableCodes (code : List UInt8) (more : List UInt8) : Bool :=
  if (((code.length : Int) > 1048576) ∨ ((more.length : Int) > 1048576)) then
    true
  else 
    let q := (sp_DrawTableMove code)
    let t := q.1
    let at_ := q.2.1
    let to_ := q.2.2
    let ok := (sp_TableOk t)
    let i : Nat := 0
    lw_FnTableCodes_K1 t at_ to_ ok i
attribute [local irreducible] im_TableSplit im_TableMerge im_TableMove im_TableJoin im_TableLeave im_TableOk sp_TableSplit sp_TableMerge sp_TableMove sp_TableJoin sp_TableLeave sp_TableOk lw_lcTable sp_DrawTableMove Facts
theorem law_L (t : GTable) (a b : Int) : ∀ (m i : Nat), 5 - i = m → lw_FnTableCodes_L1 t a b (sp_TableOk t) i = .go () := by
  intro m
  induction m with
  | zero => intro i h; rw [lw_FnTableCodes_L1, dif_neg (by omega)]
  | succ m ih =>
    intro i h
    rw [lw_FnTableCodes_L1, dif_pos (by omega)]
    have hnx : 5 - (i + 1) = m := by omega
    have hs := (facts_split t a).no
    have hm := (facts_merge t a).no
    have hv := (facts_move t a b).no
    have hj := (facts_join t b).no
    have hl := (facts_leave t b).no
    dsimp only
    by_cases h1 : (i : Int) = 1
    · rw [if_pos h1]; dsimp only; rw [if_neg hm.1, if_neg hm.2]; exact ih (i + 1) hnx
    rw [if_neg h1]
    by_cases h2 : (i : Int) = 2
    · rw [if_pos h2]; dsimp only; rw [if_neg hv.1, if_neg hv.2]; exact ih (i + 1) hnx
    rw [if_neg h2]
    by_cases h3 : (i : Int) = 3
    · rw [if_pos h3]; dsimp only; rw [if_neg hj.1, if_neg hj.2]; exact ih (i + 1) hnx
    rw [if_neg h3]
    by_cases h4 : (i : Int) = 4
    · rw [if_pos h4]; dsimp only; rw [if_neg hl.1, if_neg hl.2]; exact ih (i + 1) hnx
    rw [if_neg h4]; dsimp only; rw [if_neg hs.1, if_neg hs.2]; exact ih (i + 1) hnx
theorem law_K (t : GTable) (a b : Int) (i : Nat) : lw_FnTableCodes_K1 t a b (sp_TableOk t) i = true := by
  unfold lw_FnTableCodes_K1; rw [law_L t a b _ i rfl]
theorem law_all (code more : List UInt8) : lw_FnTableCodes code more = true := by
  unfold lw_FnTableCodes
  split
  · rfl
  · exact law_K _ _ _ _
def Slw_FnTableCodes_c : Prop := ∀ (code : List UInt8) (more : List UInt8) (hp0 : code.length ≤ 9223372036854775807) (hp1 : more.length ≤ 9223372036854775807), Gives Try.prog 4 [.r (.rd 1 encU8 code), .r (.rd 1 encU8 more)] (.lit (.bool (lw_FnTableCodes code more)))
set_option maxRecDepth 10000 in
set_option maxHeartbeats 20000000 in
theorem layL11 : (Slw_FnTableCodes_c) := by
  refine fun code more hp0 hp1 => have t0 := tg 0; Does.goR Try.func4 Try.ntmps4 Try.results4 rfl (Nat.zero_le _) rfl ?_
  all_goals (
  simp only [argR, Nat.reduceAdd]
  repeat' (first
    | (refine Tri.regSeq fun K hK => RegS.run ?_)
    | (refine Tri.reg fun K hK => RegS.run ?_)
    | (refine RegS.nil (hK _ _ ?_); clear hK K)
    | (refine QuietS.nil (hK _ _ ?_); clear hK K)
    | ((first | refine RegS.step fun K1 h1 => ?_ | refine QuietS.step fun K1 h1 => ?_); simp only [go_sem, reduceCtorEq, Nat.reduceAdd, Nat.reduceSub, Nat.reduceMul, Nat.reduceLeDiff, Nat.reduceLT, Nat.reduceEqDiff])
    | (with_reducible refine GInt_ex _ ?_)
    | (with_reducible refine GTableRange_ex _ _ _ ?_)
    | (refine h1 _ _ ?_; clear h1 K1)
    | refine And.intro ?_ ?_
    | ((first
      | (refine z46 [] [] 0 (sp_TableSplit_c ⟨?_, ?_, ?_⟩ ?_ ?_) (by simp) ?_ ?_ ?_ rfl rfl ?_ ?_; rotate_left 8)
      | (refine z46 [] [] 0 (sp_TableMerge_c ⟨?_, ?_, ?_⟩ ?_ ?_) (by simp) ?_ ?_ ?_ rfl rfl ?_ ?_; rotate_left 8)
      | (refine z46 [] [] 0 (sp_TableMove_c ⟨?_, ?_, ?_⟩ ?_ ?_ ?_) (by simp) ?_ ?_ ?_ rfl rfl ?_ ?_; rotate_left 9)
      | (refine z46 [] [] 0 (sp_TableJoin_c ⟨?_, ?_, ?_⟩ ?_ ?_) (by simp) ?_ ?_ ?_ rfl rfl ?_ ?_; rotate_left 8)
      | (refine z46 [] [] 0 (sp_TableLeave_c ⟨?_, ?_, ?_⟩ ?_ ?_) (by simp) ?_ ?_ ?_ rfl rfl ?_ ?_; rotate_left 8)
      ); (focus ((repeat' (first | simp only [z1, z2, z3, Nat.reduceEqDiff, Nat.reduceLT, not_false_eq_true] | exact z29 | refine z30 ?_ ?_ | exact z32 | refine z33 ?_ ?_ | refine z31 ?_ | exact z34 | refine z35 rfl ?_ ?_ | refine z36 ?_ | exact z13 | exact z14 | exact z15 | exact z16 | refine z17 ?_ | refine z18 rfl ?_ | refine z20 rfl ?_ ?_ | (show lτ _ _ = some _; exact rfl) | exact z21 rfl rfl | refine z21 rfl ?_ | refine z22 ?_ | refine z24 ?_ | exact z25 | refine z26 ?_ rfl rfl ?_ | refine z23 ?_ | refine z27 ?_ rfl rfl ?_ ?_ | refine z28 ?_ rfl rfl ?_ ?_ ?_ | exact True.intro | exact z4 rfl | exact z5 | exact z6 | exact z7 | exact z8 | exact z9 | exact z10 | refine z37 ?_ | refine z38 rfl ?_ | exact z39 | exact z40 | refine z41 (xs := ?_) (ys := ?_) ?_ ?_ | refine z42 (xs := ?_) (ys := ?_) ?_ ?_ ?_ ?_ | refine z43 (xs := ?_) ?_ | refine z44 (xs := ?_) ?_ | refine z45 (x := ?_) (xs := ?_) ?_ ?_ | (with_reducible show RowIs _ _ _; first | exact GTable_row _ | exact GTable_mk _ _ _ | exact GTableRange_row _ | exact GTableRange_mk _ _ _) | with_reducible exact rfl | (refine z11 ?_; omega) | (refine z12 ?_; omega) | simp only [List.length_append, List.length_map, List.length_cons, List.length_nil])); (all_goals (fail_if_success (with_reducible show FZ _ _))); (all_goals (fail_if_success (with_reducible show False))); (all_goals (fail_if_success (with_reducible show VSub _ _ _ _ _ _))))); rotate_right 1; (focus ((repeat' (first | simp only [z1, z2, z3, Nat.reduceEqDiff, Nat.reduceLT, not_false_eq_true] | exact z29 | refine z30 ?_ ?_ | exact z32 | refine z33 ?_ ?_ | refine z31 ?_ | exact z34 | refine z35 rfl ?_ ?_ | refine z36 ?_ | exact z13 | exact z14 | exact z15 | exact z16 | refine z17 ?_ | refine z18 rfl ?_ | refine z20 rfl ?_ ?_ | (show lτ _ _ = some _; exact rfl) | exact z21 rfl rfl | refine z21 rfl ?_ | refine z22 ?_ | refine z24 ?_ | exact z25 | refine z26 ?_ rfl rfl ?_ | refine z23 ?_ | refine z27 ?_ rfl rfl ?_ ?_ | refine z28 ?_ rfl rfl ?_ ?_ ?_ | exact True.intro | exact z4 rfl | exact z5 | exact z6 | exact z7 | exact z8 | exact z9 | exact z10 | refine z37 ?_ | refine z38 rfl ?_ | exact z39 | exact z40 | refine z41 (xs := ?_) (ys := ?_) ?_ ?_ | refine z42 (xs := ?_) (ys := ?_) ?_ ?_ ?_ ?_ | refine z43 (xs := ?_) ?_ | refine z44 (xs := ?_) ?_ | refine z45 (x := ?_) (xs := ?_) ?_ ?_ | (with_reducible show RowIs _ _ _; first | exact GTable_row _ | exact GTable_mk _ _ _ | exact GTableRange_row _ | exact GTableRange_mk _ _ _) | with_reducible exact rfl | (refine z11 ?_; omega) | (refine z12 ?_; omega) | simp only [List.length_append, List.length_map, List.length_cons, List.length_nil])); (all_goals (fail_if_success (with_reducible show FZ _ _))); (all_goals (fail_if_success (with_reducible show False))); (all_goals (fail_if_success (with_reducible show VSub _ _ _ _ _ _))); (all_goals (fail_if_success (with_reducible show HTell _ _ _ _ _ _))))); (all_goals (try (with_reducible refine z52 ?_); exact rfl)); (all_goals (try (with_reducible refine z51 ?_); try with_reducible exact rfl)); any_goals (rintro _ _ ⟨rfl, rfl⟩ _; simp only [go_sem, reduceCtorEq, Nat.reduceAdd, Nat.reduceSub, Nat.reduceMul, Nat.reduceLeDiff, Nat.reduceLT, Nat.reduceEqDiff]))
    | ((first
      | (refine z48 (sp_DrawTableMove_c ?_ ?_) ?_ ?_; rotate_left 2)
      | (refine z48 (sp_TableOk_c ⟨?_, ?_, ?_⟩ ?_) ?_ ?_; rotate_left 4)
      | (refine z48 (im_TableSplit_c ⟨?_, ?_, ?_⟩ ?_ ?_) ?_ ?_; rotate_left 5)
      | (refine z48 (im_TableMerge_c ⟨?_, ?_, ?_⟩ ?_ ?_) ?_ ?_; rotate_left 5)
      | (refine z48 (im_TableMove_c ⟨?_, ?_, ?_⟩ ?_ ?_ ?_) ?_ ?_; rotate_left 6)
      | (refine z48 (im_TableJoin_c ⟨?_, ?_, ?_⟩ ?_ ?_) ?_ ?_; rotate_left 5)
      | (refine z48 (im_TableLeave_c ⟨?_, ?_, ?_⟩ ?_ ?_) ?_ ?_; rotate_left 5)
      | (refine z48 (lw_lcTable_c ⟨?_, ?_, ?_⟩ ⟨?_, ?_, ?_⟩ ?_ ?_) ?_ ?_; rotate_left 8)
      | (refine z48 (im_TableOk_c ⟨?_, ?_, ?_⟩ ?_) ?_ ?_; rotate_left 4)
      ); (focus ((repeat' (first | simp only [z1, z2, z3, Nat.reduceEqDiff, Nat.reduceLT, not_false_eq_true] | exact z29 | refine z30 ?_ ?_ | exact z32 | refine z33 ?_ ?_ | refine z31 ?_ | exact z34 | refine z35 rfl ?_ ?_ | refine z36 ?_ | exact z13 | exact z14 | exact z15 | exact z16 | refine z17 ?_ | refine z18 rfl ?_ | refine z19 rfl ?_ ?_ | (show lτ _ _ = some _; exact rfl) | exact z21 rfl rfl | refine z21 rfl ?_ | refine z22 ?_ | refine z24 ?_ | exact z25 | refine z26 ?_ rfl rfl ?_ | refine z23 ?_ | refine z27 ?_ rfl rfl ?_ ?_ | refine z28 ?_ rfl rfl ?_ ?_ ?_ | exact True.intro | exact z4 rfl | exact z5 | exact z6 | exact z7 | exact z8 | exact z9 | exact z10 | refine z37 ?_ | refine z38 rfl ?_ | exact z39 | exact z40 | refine z41 (xs := ?_) (ys := ?_) ?_ ?_ | refine z42 (xs := ?_) (ys := ?_) ?_ ?_ ?_ ?_ | refine z43 (xs := ?_) ?_ | refine z44 (xs := ?_) ?_ | refine z45 (x := ?_) (xs := ?_) ?_ ?_ | (with_reducible show RowIs _ _ _; first | exact GTable_row _ | exact GTable_mk _ _ _ | exact GTableRange_row _ | exact GTableRange_mk _ _ _) | with_reducible exact rfl | (refine z11 ?_; omega) | (refine z12 ?_; omega) | simp only [List.length_append, List.length_map, List.length_cons, List.length_nil])); (all_goals (fail_if_success (with_reducible show FZ _ _))); (all_goals (fail_if_success (with_reducible show False))); (all_goals (fail_if_success (with_reducible show VSub _ _ _ _ _ _))))))
    | ((first
      | (refine CallL.gv0 (sp_DrawTableMove_c ?_ ?_) ?_ ?_; rotate_left 2)
      | (refine CallL.gv0 (sp_TableOk_c ⟨?_, ?_, ?_⟩ ?_) ?_ ?_; rotate_left 4)
      | (refine CallL.gv0 (im_TableSplit_c ⟨?_, ?_, ?_⟩ ?_ ?_) ?_ ?_; rotate_left 5)
      | (refine CallL.gv0 (im_TableMerge_c ⟨?_, ?_, ?_⟩ ?_ ?_) ?_ ?_; rotate_left 5)
      | (refine CallL.gv0 (im_TableMove_c ⟨?_, ?_, ?_⟩ ?_ ?_ ?_) ?_ ?_; rotate_left 6)
      | (refine CallL.gv0 (im_TableJoin_c ⟨?_, ?_, ?_⟩ ?_ ?_) ?_ ?_; rotate_left 5)
      | (refine CallL.gv0 (im_TableLeave_c ⟨?_, ?_, ?_⟩ ?_ ?_) ?_ ?_; rotate_left 5)
      | (refine CallL.gv0 (lw_lcTable_c ⟨?_, ?_, ?_⟩ ⟨?_, ?_, ?_⟩ ?_ ?_) ?_ ?_; rotate_left 8)
      | (refine CallL.gv0 (im_TableOk_c ⟨?_, ?_, ?_⟩ ?_) ?_ ?_; rotate_left 4)
      ); (focus ((repeat' (first | simp only [z1, z2, z3, Nat.reduceEqDiff, Nat.reduceLT, not_false_eq_true] | exact z29 | refine z30 ?_ ?_ | exact z32 | refine z33 ?_ ?_ | refine z31 ?_ | exact z34 | refine z35 rfl ?_ ?_ | refine z36 ?_ | exact z13 | exact z14 | exact z15 | exact z16 | refine z17 ?_ | refine z18 rfl ?_ | refine z19 rfl ?_ ?_ | (show lτ _ _ = some _; exact rfl) | exact z21 rfl rfl | refine z21 rfl ?_ | refine z22 ?_ | refine z24 ?_ | exact z25 | refine z26 ?_ rfl rfl ?_ | refine z23 ?_ | refine z27 ?_ rfl rfl ?_ ?_ | refine z28 ?_ rfl rfl ?_ ?_ ?_ | exact True.intro | exact z4 rfl | exact z5 | exact z6 | exact z7 | exact z8 | exact z9 | exact z10 | refine z37 ?_ | refine z38 rfl ?_ | exact z39 | exact z40 | refine z41 (xs := ?_) (ys := ?_) ?_ ?_ | refine z42 (xs := ?_) (ys := ?_) ?_ ?_ ?_ ?_ | refine z43 (xs := ?_) ?_ | refine z44 (xs := ?_) ?_ | refine z45 (x := ?_) (xs := ?_) ?_ ?_ | (with_reducible show RowIs _ _ _; first | exact GTable_row _ | exact GTable_mk _ _ _ | exact GTableRange_row _ | exact GTableRange_mk _ _ _) | with_reducible exact rfl | (refine z11 ?_; omega) | (refine z12 ?_; omega) | simp only [List.length_append, List.length_map, List.length_cons, List.length_nil])); (all_goals (fail_if_success (with_reducible show FZ _ _))); (all_goals (fail_if_success (with_reducible show False))); (all_goals (fail_if_success (with_reducible show VSub _ _ _ _ _ _))))))
    | ((first
      | (refine z50 (sp_TableOk_c ⟨?_, ?_, ?_⟩ ?_) rfl ?_ ?_; rotate_left 4)
      | (refine z50 (lw_lcTable_c ⟨?_, ?_, ?_⟩ ⟨?_, ?_, ?_⟩ ?_ ?_) rfl ?_ ?_; rotate_left 8)
      | (refine z50 (im_TableOk_c ⟨?_, ?_, ?_⟩ ?_) rfl ?_ ?_; rotate_left 4)
      ); (focus ((repeat' (first | simp only [z1, z2, z3, Nat.reduceEqDiff, Nat.reduceLT, not_false_eq_true] | exact z29 | refine z30 ?_ ?_ | exact z32 | refine z33 ?_ ?_ | refine z31 ?_ | exact z34 | refine z35 rfl ?_ ?_ | refine z36 ?_ | exact z13 | exact z14 | exact z15 | exact z16 | refine z17 ?_ | refine z18 rfl ?_ | refine z19 rfl ?_ ?_ | (show lτ _ _ = some _; exact rfl) | exact z21 rfl rfl | refine z21 rfl ?_ | refine z22 ?_ | refine z24 ?_ | exact z25 | refine z26 ?_ rfl rfl ?_ | refine z23 ?_ | refine z27 ?_ rfl rfl ?_ ?_ | refine z28 ?_ rfl rfl ?_ ?_ ?_ | exact True.intro | exact z4 rfl | exact z5 | exact z6 | exact z7 | exact z8 | exact z9 | exact z10 | refine z37 ?_ | refine z38 rfl ?_ | exact z39 | exact z40 | refine z41 (xs := ?_) (ys := ?_) ?_ ?_ | refine z42 (xs := ?_) (ys := ?_) ?_ ?_ ?_ ?_ | refine z43 (xs := ?_) ?_ | refine z44 (xs := ?_) ?_ | refine z45 (x := ?_) (xs := ?_) ?_ ?_ | (with_reducible show RowIs _ _ _; first | exact GTable_row _ | exact GTable_mk _ _ _ | exact GTableRange_row _ | exact GTableRange_mk _ _ _) | with_reducible exact rfl | (refine z11 ?_; omega) | (refine z12 ?_; omega) | simp only [List.length_append, List.length_map, List.length_cons, List.length_nil])); (all_goals (fail_if_success (with_reducible show FZ _ _))); (all_goals (fail_if_success (with_reducible show False))); (all_goals (fail_if_success (with_reducible show VSub _ _ _ _ _ _))))))
    | ((first
      | (refine z47 [] [?_] 0 (sp_TableSplit_c ⟨?_, ?_, ?_⟩ ?_ ?_) (by simp) ?_ ?_ ?_ rfl rfl ?_ (freeP (by simp [AFree, AFreeL]) (HFree.cons (BFree.rows GTableRange_lit) HFree.nil)) ?_; rotate_left 9)
      | (refine z47 [] [?_] 0 (sp_TableMerge_c ⟨?_, ?_, ?_⟩ ?_ ?_) (by simp) ?_ ?_ ?_ rfl rfl ?_ (freeP (by simp [AFree, AFreeL]) (HFree.cons (BFree.rows GTableRange_lit) HFree.nil)) ?_; rotate_left 9)
      | (refine z47 [] [?_] 0 (sp_TableMove_c ⟨?_, ?_, ?_⟩ ?_ ?_ ?_) (by simp) ?_ ?_ ?_ rfl rfl ?_ (freeP (by simp [AFree, AFreeL]) (HFree.cons (BFree.rows GTableRange_lit) HFree.nil)) ?_; rotate_left 10)
      | (refine z47 [] [?_] 0 (sp_TableJoin_c ⟨?_, ?_, ?_⟩ ?_ ?_) (by simp) ?_ ?_ ?_ rfl rfl ?_ (freeP (by simp [AFree, AFreeL]) (HFree.cons (BFree.rows GTableRange_lit) HFree.nil)) ?_; rotate_left 9)
      | (refine z47 [] [?_] 0 (sp_TableLeave_c ⟨?_, ?_, ?_⟩ ?_ ?_) (by simp) ?_ ?_ ?_ rfl rfl ?_ (freeP (by simp [AFree, AFreeL]) (HFree.cons (BFree.rows GTableRange_lit) HFree.nil)) ?_; rotate_left 9)
      ); (focus ((repeat' (first | simp only [z1, z2, z3, Nat.reduceEqDiff, Nat.reduceLT, not_false_eq_true] | exact z29 | refine z30 ?_ ?_ | exact z32 | refine z33 ?_ ?_ | refine z31 ?_ | exact z34 | refine z35 rfl ?_ ?_ | refine z36 ?_ | exact z13 | exact z14 | exact z15 | exact z16 | refine z17 ?_ | refine z18 rfl ?_ | refine z20 rfl ?_ ?_ | (show lτ _ _ = some _; exact rfl) | exact z21 rfl rfl | refine z21 rfl ?_ | refine z22 ?_ | refine z24 ?_ | exact z25 | refine z26 ?_ rfl rfl ?_ | refine z23 ?_ | refine z27 ?_ rfl rfl ?_ ?_ | refine z28 ?_ rfl rfl ?_ ?_ ?_ | exact True.intro | exact z4 rfl | exact z5 | exact z6 | exact z7 | exact z8 | exact z9 | exact z10 | refine z37 ?_ | refine z38 rfl ?_ | exact z39 | exact z40 | refine z41 (xs := ?_) (ys := ?_) ?_ ?_ | refine z42 (xs := ?_) (ys := ?_) ?_ ?_ ?_ ?_ | refine z43 (xs := ?_) ?_ | refine z44 (xs := ?_) ?_ | refine z45 (x := ?_) (xs := ?_) ?_ ?_ | (with_reducible show RowIs _ _ _; first | exact GTable_row _ | exact GTable_mk _ _ _ | exact GTableRange_row _ | exact GTableRange_mk _ _ _) | with_reducible exact rfl | (refine z11 ?_; omega) | (refine z12 ?_; omega) | simp only [List.length_append, List.length_map, List.length_cons, List.length_nil])); (all_goals (fail_if_success (with_reducible show FZ _ _))); (all_goals (fail_if_success (with_reducible show False))); (all_goals (fail_if_success (with_reducible show VSub _ _ _ _ _ _))))); rotate_right 1; (focus ((repeat' (first | simp only [z1, z2, z3, Nat.reduceEqDiff, Nat.reduceLT, not_false_eq_true] | exact z29 | refine z30 ?_ ?_ | exact z32 | refine z33 ?_ ?_ | refine z31 ?_ | exact z34 | refine z35 rfl ?_ ?_ | refine z36 ?_ | exact z13 | exact z14 | exact z15 | exact z16 | refine z17 ?_ | refine z18 rfl ?_ | refine z20 rfl ?_ ?_ | (show lτ _ _ = some _; exact rfl) | exact z21 rfl rfl | refine z21 rfl ?_ | refine z22 ?_ | refine z24 ?_ | exact z25 | refine z26 ?_ rfl rfl ?_ | refine z23 ?_ | refine z27 ?_ rfl rfl ?_ ?_ | refine z28 ?_ rfl rfl ?_ ?_ ?_ | exact True.intro | exact z4 rfl | exact z5 | exact z6 | exact z7 | exact z8 | exact z9 | exact z10 | refine z37 ?_ | refine z38 rfl ?_ | exact z39 | exact z40 | refine z41 (xs := ?_) (ys := ?_) ?_ ?_ | refine z42 (xs := ?_) (ys := ?_) ?_ ?_ ?_ ?_ | refine z43 (xs := ?_) ?_ | refine z44 (xs := ?_) ?_ | refine z45 (x := ?_) (xs := ?_) ?_ ?_ | (with_reducible show RowIs _ _ _; first | exact GTable_row _ | exact GTable_mk _ _ _ | exact GTableRange_row _ | exact GTableRange_mk _ _ _) | with_reducible exact rfl | (refine z11 ?_; omega) | (refine z12 ?_; omega) | simp only [List.length_append, List.length_map, List.length_cons, List.length_nil])); (all_goals (fail_if_success (with_reducible show FZ _ _))); (all_goals (fail_if_success (with_reducible show False))); (all_goals (fail_if_success (with_reducible show VSub _ _ _ _ _ _))); (all_goals (fail_if_success (with_reducible show HTell _ _ _ _ _ _))))); (all_goals (try (with_reducible refine z52 ?_); exact rfl)); (all_goals (try (with_reducible refine z51 ?_); try with_reducible exact rfl)); any_goals (rintro _ _ ⟨rfl, rfl⟩ _; simp only [go_sem, reduceCtorEq, Nat.reduceAdd, Nat.reduceSub, Nat.reduceMul, Nat.reduceLeDiff, Nat.reduceLT, Nat.reduceEqDiff]))
    | ((first
      | (refine z49 [?_] (sp_DrawTableMove_c ?_ ?_) ?_ ?_; rotate_left 3)
      | (refine z49 [?_] (im_TableSplit_c ⟨?_, ?_, ?_⟩ ?_ ?_) ?_ ?_; rotate_left 6)
      | (refine z49 [?_] (im_TableMerge_c ⟨?_, ?_, ?_⟩ ?_ ?_) ?_ ?_; rotate_left 6)
      | (refine z49 [?_] (im_TableMove_c ⟨?_, ?_, ?_⟩ ?_ ?_ ?_) ?_ ?_; rotate_left 7)
      | (refine z49 [?_] (im_TableJoin_c ⟨?_, ?_, ?_⟩ ?_ ?_) ?_ ?_; rotate_left 6)
      | (refine z49 [?_] (im_TableLeave_c ⟨?_, ?_, ?_⟩ ?_ ?_) ?_ ?_; rotate_left 6)
      ); (focus ((repeat' (first | simp only [z1, z2, z3, Nat.reduceEqDiff, Nat.reduceLT, not_false_eq_true] | exact z29 | refine z30 ?_ ?_ | exact z32 | refine z33 ?_ ?_ | refine z31 ?_ | exact z34 | refine z35 rfl ?_ ?_ | refine z36 ?_ | exact z13 | exact z14 | exact z15 | exact z16 | refine z17 ?_ | refine z18 rfl ?_ | refine z19 rfl ?_ ?_ | (show lτ _ _ = some _; exact rfl) | exact z21 rfl rfl | refine z21 rfl ?_ | refine z22 ?_ | refine z24 ?_ | exact z25 | refine z26 ?_ rfl rfl ?_ | refine z23 ?_ | refine z27 ?_ rfl rfl ?_ ?_ | refine z28 ?_ rfl rfl ?_ ?_ ?_ | exact True.intro | exact z4 rfl | exact z5 | exact z6 | exact z7 | exact z8 | exact z9 | exact z10 | refine z37 ?_ | refine z38 rfl ?_ | exact z39 | exact z40 | refine z41 (xs := ?_) (ys := ?_) ?_ ?_ | refine z42 (xs := ?_) (ys := ?_) ?_ ?_ ?_ ?_ | refine z43 (xs := ?_) ?_ | refine z44 (xs := ?_) ?_ | refine z45 (x := ?_) (xs := ?_) ?_ ?_ | (with_reducible show RowIs _ _ _; first | exact GTable_row _ | exact GTable_mk _ _ _ | exact GTableRange_row _ | exact GTableRange_mk _ _ _) | with_reducible exact rfl | (refine z11 ?_; omega) | (refine z12 ?_; omega) | simp only [List.length_append, List.length_map, List.length_cons, List.length_nil])); (all_goals (fail_if_success (with_reducible show FZ _ _))); (all_goals (fail_if_success (with_reducible show False))); (all_goals (fail_if_success (with_reducible show VSub _ _ _ _ _ _))))); (try simp only [go_sem, reduceCtorEq, Nat.reduceAdd, Nat.reduceSub, Nat.reduceMul, Nat.reduceLeDiff, Nat.reduceLT, Nat.reduceEqDiff]))
    | ((first
      | (refine z46 [] [?_] 0 (sp_TableSplit_c ⟨?_, ?_, ?_⟩ ?_ ?_) (by simp) ?_ ?_ ?_ rfl rfl ?_ ?_; rotate_left 9)
      | (refine z46 [] [?_] 0 (sp_TableMerge_c ⟨?_, ?_, ?_⟩ ?_ ?_) (by simp) ?_ ?_ ?_ rfl rfl ?_ ?_; rotate_left 9)
      | (refine z46 [] [?_] 0 (sp_TableMove_c ⟨?_, ?_, ?_⟩ ?_ ?_ ?_) (by simp) ?_ ?_ ?_ rfl rfl ?_ ?_; rotate_left 10)
      | (refine z46 [] [?_] 0 (sp_TableJoin_c ⟨?_, ?_, ?_⟩ ?_ ?_) (by simp) ?_ ?_ ?_ rfl rfl ?_ ?_; rotate_left 9)
      | (refine z46 [] [?_] 0 (sp_TableLeave_c ⟨?_, ?_, ?_⟩ ?_ ?_) (by simp) ?_ ?_ ?_ rfl rfl ?_ ?_; rotate_left 9)
      ); (focus ((repeat' (first | simp only [z1, z2, z3, Nat.reduceEqDiff, Nat.reduceLT, not_false_eq_true] | exact z29 | refine z30 ?_ ?_ | exact z32 | refine z33 ?_ ?_ | refine z31 ?_ | exact z34 | refine z35 rfl ?_ ?_ | refine z36 ?_ | exact z13 | exact z14 | exact z15 | exact z16 | refine z17 ?_ | refine z18 rfl ?_ | refine z20 rfl ?_ ?_ | (show lτ _ _ = some _; exact rfl) | exact z21 rfl rfl | refine z21 rfl ?_ | refine z22 ?_ | refine z24 ?_ | exact z25 | refine z26 ?_ rfl rfl ?_ | refine z23 ?_ | refine z27 ?_ rfl rfl ?_ ?_ | refine z28 ?_ rfl rfl ?_ ?_ ?_ | exact True.intro | exact z4 rfl | exact z5 | exact z6 | exact z7 | exact z8 | exact z9 | exact z10 | refine z37 ?_ | refine z38 rfl ?_ | exact z39 | exact z40 | refine z41 (xs := ?_) (ys := ?_) ?_ ?_ | refine z42 (xs := ?_) (ys := ?_) ?_ ?_ ?_ ?_ | refine z43 (xs := ?_) ?_ | refine z44 (xs := ?_) ?_ | refine z45 (x := ?_) (xs := ?_) ?_ ?_ | (with_reducible show RowIs _ _ _; first | exact GTable_row _ | exact GTable_mk _ _ _ | exact GTableRange_row _ | exact GTableRange_mk _ _ _) | with_reducible exact rfl | (refine z11 ?_; omega) | (refine z12 ?_; omega) | simp only [List.length_append, List.length_map, List.length_cons, List.length_nil])); (all_goals (fail_if_success (with_reducible show FZ _ _))); (all_goals (fail_if_success (with_reducible show False))); (all_goals (fail_if_success (with_reducible show VSub _ _ _ _ _ _))))); rotate_right 1; (focus ((repeat' (first | simp only [z1, z2, z3, Nat.reduceEqDiff, Nat.reduceLT, not_false_eq_true] | exact z29 | refine z30 ?_ ?_ | exact z32 | refine z33 ?_ ?_ | refine z31 ?_ | exact z34 | refine z35 rfl ?_ ?_ | refine z36 ?_ | exact z13 | exact z14 | exact z15 | exact z16 | refine z17 ?_ | refine z18 rfl ?_ | refine z20 rfl ?_ ?_ | (show lτ _ _ = some _; exact rfl) | exact z21 rfl rfl | refine z21 rfl ?_ | refine z22 ?_ | refine z24 ?_ | exact z25 | refine z26 ?_ rfl rfl ?_ | refine z23 ?_ | refine z27 ?_ rfl rfl ?_ ?_ | refine z28 ?_ rfl rfl ?_ ?_ ?_ | exact True.intro | exact z4 rfl | exact z5 | exact z6 | exact z7 | exact z8 | exact z9 | exact z10 | refine z37 ?_ | refine z38 rfl ?_ | exact z39 | exact z40 | refine z41 (xs := ?_) (ys := ?_) ?_ ?_ | refine z42 (xs := ?_) (ys := ?_) ?_ ?_ ?_ ?_ | refine z43 (xs := ?_) ?_ | refine z44 (xs := ?_) ?_ | refine z45 (x := ?_) (xs := ?_) ?_ ?_ | (with_reducible show RowIs _ _ _; first | exact GTable_row _ | exact GTable_mk _ _ _ | exact GTableRange_row _ | exact GTableRange_mk _ _ _) | with_reducible exact rfl | (refine z11 ?_; omega) | (refine z12 ?_; omega) | simp only [List.length_append, List.length_map, List.length_cons, List.length_nil])); (all_goals (fail_if_success (with_reducible show FZ _ _))); (all_goals (fail_if_success (with_reducible show False))); (all_goals (fail_if_success (with_reducible show VSub _ _ _ _ _ _))); (all_goals (fail_if_success (with_reducible show HTell _ _ _ _ _ _))))); (all_goals (try (with_reducible refine z52 ?_); exact rfl)); (all_goals (try (with_reducible refine z51 ?_); try with_reducible exact rfl)); any_goals (rintro _ _ ⟨rfl, rfl⟩ _; simp only [go_sem, reduceCtorEq, Nat.reduceAdd, Nat.reduceSub, Nat.reduceMul, Nat.reduceLeDiff, Nat.reduceLT, Nat.reduceEqDiff]))
    | omega
    | (refine Tri.cond (b := ?_) ?_ ?_ ?_; rotate_left 1; focus (simp only [ev, z1, z2, Nat.reduceEqDiff, Nat.reduceLT, not_false_eq_true]; exact rfl))
    | (intro h; (try simp only [decide_eq_true_eq, decide_eq_false_iff_not, Int.not_lt, Int.not_le, beq_iff_eq, bne_iff_ne, beq_eq_false_iff_ne, bne_eq_false_iff_eq, ne_eq, Bool.not_eq_true', Bool.not_eq_false', Decidable.not_not] at h); (try contradiction))
    | (guard_hyp t0; refine Tri.cutN (ι := GTable × Int × GTable × Int) 2 rfl (fun j => mkR 156 [(5, .ptr 1 3 0 0), (6, .lit (.int .i64 at_)), (7, .lit (.int .i64 to_)), (8, .lit (.bool ok)), (9, .lit (.int .i64 (i : Int))), (10, .ptr 2 3 0 0), (11, .lit (.int .i64 j.2.1)), (12, .ptr 3 3 0 0), (13, .lit (.int .i64 j.2.2.2))]) (fun j => [some (.rows 3 (fun x => (encGTableRange x).map AV.r) j.2.2.1.Ranges), some (.cells [.lit (.int .i64 t.Epoch), .lit (.int .i64 t.Members), .r (.rd 3 encGTableRange t.Ranges)]), some (.cells [.lit (.int .i64 j.1.Epoch), .lit (.int .i64 j.1.Members), .r (.rd 3 encGTableRange j.1.Ranges)]), some (.cells [.lit (.int .i64 j.2.2.1.Epoch), .lit (.int .i64 j.2.2.1.Members), .sl 0 3 0 j.2.2.1.Ranges.length])]) (fun j => Facts t (j.1, j.2.1) (j.2.2.1, j.2.2.2) ∧ j.1.Ranges.length ≤ 8 ∧ j.2.2.1.Ranges.length ≤ 8) ?_ ?_; rotate_left 1; focus (rintro ⟨x, n, want, told⟩ hC; (try dsimp only at hC)))
    | (guard_hyp t0; refine Tri.cutB (ι := GTable × Int × GTable × Int) 2 rfl (fun j => mkR 156 [(5, .ptr 1 3 0 0), (6, .lit (.int .i64 at_)), (7, .lit (.int .i64 to_)), (8, .lit (.bool ok)), (9, .lit (.int .i64 (i : Int))), (10, .ptr 2 3 0 0), (11, .lit (.int .i64 j.2.1)), (12, .ptr 3 3 0 0), (13, .lit (.int .i64 j.2.2.2))]) (fun j => [some (.rows 3 (fun x => (encGTableRange x).map AV.r) j.2.2.1.Ranges), some (.cells [.lit (.int .i64 t.Epoch), .lit (.int .i64 t.Members), .r (.rd 3 encGTableRange t.Ranges)]), some (.cells [.lit (.int .i64 j.1.Epoch), .lit (.int .i64 j.1.Members), .r (.rd 3 encGTableRange j.1.Ranges)]), some (.cells [.lit (.int .i64 j.2.2.1.Epoch), .lit (.int .i64 j.2.2.1.Members), .sl 0 3 0 j.2.2.1.Ranges.length])]) (fun j => Facts t (j.1, j.2.1) (j.2.2.1, j.2.2.2) ∧ j.1.Ranges.length ≤ 8 ∧ j.2.2.1.Ranges.length ≤ 8) ?_ ?_; rotate_left 1; focus (rintro ⟨x, n, want, told⟩ hC; (try dsimp only at hC)))
    | (refine Tri.skip ?_; try change Tri _ _ _ _ _ _)
    | (refine Tri.exit ?_; try change Tri _ _ _ _ _ _)
    | refine Tri.ret ?_
    | refine Tri.block ?_
    | refine Tri.seq ?_
    | ((guard_hyp t0; refine Tri.loopN (ι := GTable × Int × Int × Bool × Nat) 6 rfl (fun j => mkR 156 [(5, .ptr 0 3 0 0), (6, .lit (.int .i64 j.2.1)), (7, .lit (.int .i64 j.2.2.1)), (8, .lit (.bool j.2.2.2.1)), (9, .lit (.int .i64 (j.2.2.2.2 : Int)))]) (fun j => [some (.cells [.lit (.int .i64 j.1.Epoch), .lit (.int .i64 j.1.Members), .r (.rd 3 encGTableRange j.1.Ranges)])]) (fun j => lw_FnTableCodes_K1 j.1 j.2.1 j.2.2.1 j.2.2.2.1 j.2.2.2.2 = lw_FnTableCodes code more ∧ (j.2.2.2.2 : Int) ≤ 5 ∧ j.1.Ranges.length ≤ 8 ∧ j.2.2.2.1 = sp_TableOk j.1) (fun j => (5 - (j.2.2.2.2 : Int)).toNat) (⟨?_, ?_, ?_⟩, ?_, ?_, ?_, 0) (Ent.places [.slot 5] _ (by simp only [go_sem, reduceCtorEq, Nat.reduceAdd, Nat.reduceSub, Nat.reduceMul, Nat.reduceLeDiff, Nat.reduceLT, Nat.reduceEqDiff]; rfl) rfl rfl (Nat.zero_le _) ?_ ?_) ?_ ?_; rotate_left 9; (focus (rintro ⟨t, at_, to_, ok, i⟩ ⟨hM, hI⟩; (try dsimp only at hM hI))); rotate_right 3); (focus (repeat' (first | simp only [z1, z2, z3, Nat.reduceEqDiff, Nat.reduceLT, not_false_eq_true] | exact z29 | refine z30 ?_ ?_ | exact z32 | refine z33 ?_ ?_ | refine z31 ?_ | exact z34 | refine z35 rfl ?_ ?_ | refine z36 ?_ | exact z13 | exact z14 | exact z15 | exact z16 | refine z17 ?_ | refine z18 rfl ?_ | refine z19 rfl ?_ ?_ | (show lτ _ _ = some _; exact rfl) | exact z21 rfl rfl | refine z21 rfl ?_ | refine z22 ?_ | refine z24 ?_ | exact z25 | refine z26 ?_ rfl rfl ?_ | refine z23 ?_ | refine z27 ?_ rfl rfl ?_ ?_ | refine z28 ?_ rfl rfl ?_ ?_ ?_ | exact True.intro | exact z4 rfl | exact z5 | exact z6 | exact z7 | exact z8 | exact z9 | exact z10 | refine z37 ?_ | refine z38 rfl ?_ | exact z39 | exact z40 | refine z41 (xs := ?_) (ys := ?_) ?_ ?_ | refine z42 (xs := ?_) (ys := ?_) ?_ ?_ ?_ ?_ | refine z43 (xs := ?_) ?_ | refine z44 (xs := ?_) ?_ | refine z45 (x := ?_) (xs := ?_) ?_ ?_ | (with_reducible show RowIs _ _ _; first | exact GTable_row _ | exact GTable_mk _ _ _ | exact GTableRange_row _ | exact GTableRange_mk _ _ _) | with_reducible exact rfl | (refine z11 ?_; omega) | (refine z12 ?_; omega) | simp only [List.length_append, List.length_map, List.length_cons, List.length_nil]))); (focus (repeat' (first | simp only [z1, z2, z3, Nat.reduceEqDiff, Nat.reduceLT, not_false_eq_true] | exact z29 | refine z30 ?_ ?_ | exact z32 | refine z33 ?_ ?_ | refine z31 ?_ | exact z34 | refine z35 rfl ?_ ?_ | refine z36 ?_ | exact z13 | exact z14 | exact z15 | exact z16 | refine z17 ?_ | refine z18 rfl ?_ | refine z19 rfl ?_ ?_ | (show lτ _ _ = some _; exact rfl) | exact z21 rfl rfl | refine z21 rfl ?_ | refine z22 ?_ | refine z24 ?_ | exact z25 | refine z26 ?_ rfl rfl ?_ | refine z23 ?_ | refine z27 ?_ rfl rfl ?_ ?_ | refine z28 ?_ rfl rfl ?_ ?_ ?_ | exact True.intro | exact z4 rfl | exact z5 | exact z6 | exact z7 | exact z8 | exact z9 | exact z10 | refine z37 ?_ | refine z38 rfl ?_ | exact z39 | exact z40 | refine z41 (xs := ?_) (ys := ?_) ?_ ?_ | refine z42 (xs := ?_) (ys := ?_) ?_ ?_ ?_ ?_ | refine z43 (xs := ?_) ?_ | refine z44 (xs := ?_) ?_ | refine z45 (x := ?_) (xs := ?_) ?_ ?_ | (with_reducible show RowIs _ _ _; first | exact GTable_row _ | exact GTable_mk _ _ _ | exact GTableRange_row _ | exact GTableRange_mk _ _ _) | with_reducible exact rfl | (refine z11 ?_; omega) | (refine z12 ?_; omega) | simp only [List.length_append, List.length_map, List.length_cons, List.length_nil]))); rotate_left 1)
    | ((guard_hyp t0; refine backK (⟨?_, ?_, ?_⟩, ?_, ?_, ?_, (i + 1)) (Ent.places [.slot 5] _ (by simp only [go_sem, reduceCtorEq, Nat.reduceAdd, Nat.reduceSub, Nat.reduceMul, Nat.reduceLeDiff, Nat.reduceLT, Nat.reduceEqDiff]; rfl) rfl rfl (Nat.zero_le _) ?_ ?_) ?_ ?_; rotate_left 6; rotate_left 3; (focus ((try dsimp only); omega)); rotate_right 3); (focus (repeat' (first | simp only [z1, z2, z3, Nat.reduceEqDiff, Nat.reduceLT, not_false_eq_true] | exact z29 | refine z30 ?_ ?_ | exact z32 | refine z33 ?_ ?_ | refine z31 ?_ | exact z34 | refine z35 rfl ?_ ?_ | refine z36 ?_ | exact z13 | exact z14 | exact z15 | exact z16 | refine z17 ?_ | refine z18 rfl ?_ | refine z19 rfl ?_ ?_ | (show lτ _ _ = some _; exact rfl) | exact z21 rfl rfl | refine z21 rfl ?_ | refine z22 ?_ | refine z24 ?_ | exact z25 | refine z26 ?_ rfl rfl ?_ | refine z23 ?_ | refine z27 ?_ rfl rfl ?_ ?_ | refine z28 ?_ rfl rfl ?_ ?_ ?_ | exact True.intro | exact z4 rfl | exact z5 | exact z6 | exact z7 | exact z8 | exact z9 | exact z10 | refine z37 ?_ | refine z38 rfl ?_ | exact z39 | exact z40 | refine z41 (xs := ?_) (ys := ?_) ?_ ?_ | refine z42 (xs := ?_) (ys := ?_) ?_ ?_ ?_ ?_ | refine z43 (xs := ?_) ?_ | refine z44 (xs := ?_) ?_ | refine z45 (x := ?_) (xs := ?_) ?_ ?_ | (with_reducible show RowIs _ _ _; first | exact GTable_row _ | exact GTable_mk _ _ _ | exact GTableRange_row _ | exact GTableRange_mk _ _ _) | with_reducible exact rfl | (refine z11 ?_; omega) | (refine z12 ?_; omega) | simp only [List.length_append, List.length_map, List.length_cons, List.length_nil]))); (focus (repeat' (first | simp only [z1, z2, z3, Nat.reduceEqDiff, Nat.reduceLT, not_false_eq_true] | exact z29 | refine z30 ?_ ?_ | exact z32 | refine z33 ?_ ?_ | refine z31 ?_ | exact z34 | refine z35 rfl ?_ ?_ | refine z36 ?_ | exact z13 | exact z14 | exact z15 | exact z16 | refine z17 ?_ | refine z18 rfl ?_ | refine z19 rfl ?_ ?_ | (show lτ _ _ = some _; exact rfl) | exact z21 rfl rfl | refine z21 rfl ?_ | refine z22 ?_ | refine z24 ?_ | exact z25 | refine z26 ?_ rfl rfl ?_ | refine z23 ?_ | refine z27 ?_ rfl rfl ?_ ?_ | refine z28 ?_ rfl rfl ?_ ?_ ?_ | exact True.intro | exact z4 rfl | exact z5 | exact z6 | exact z7 | exact z8 | exact z9 | exact z10 | refine z37 ?_ | refine z38 rfl ?_ | exact z39 | exact z40 | refine z41 (xs := ?_) (ys := ?_) ?_ ?_ | refine z42 (xs := ?_) (ys := ?_) ?_ ?_ ?_ ?_ | refine z43 (xs := ?_) ?_ | refine z44 (xs := ?_) ?_ | refine z45 (x := ?_) (xs := ?_) ?_ ?_ | (with_reducible show RowIs _ _ _; first | exact GTable_row _ | exact GTable_mk _ _ _ | exact GTableRange_row _ | exact GTableRange_mk _ _ _) | with_reducible exact rfl | (refine z11 ?_; omega) | (refine z12 ?_; omega) | simp only [List.length_append, List.length_map, List.length_cons, List.length_nil]))))
    | ((guard_hyp t0; refine backK (⟨?_, ?_, ?_⟩, ?_, ?_, ?_, (i + 1)) (Ent.places [.slot 5] _ (by simp only [go_sem, reduceCtorEq, Nat.reduceAdd, Nat.reduceSub, Nat.reduceMul, Nat.reduceLeDiff, Nat.reduceLT, Nat.reduceEqDiff]; rfl) rfl rfl (Nat.zero_le _) ?_ ?_) ?_ ?_; rotate_left 6); (focus (repeat' (first | simp only [z1, z2, z3, Nat.reduceEqDiff, Nat.reduceLT, not_false_eq_true] | exact z29 | refine z30 ?_ ?_ | exact z32 | refine z33 ?_ ?_ | refine z31 ?_ | exact z34 | refine z35 rfl ?_ ?_ | refine z36 ?_ | exact z13 | exact z14 | exact z15 | exact z16 | refine z17 ?_ | refine z18 rfl ?_ | refine z19 rfl ?_ ?_ | (show lτ _ _ = some _; exact rfl) | exact z21 rfl rfl | refine z21 rfl ?_ | refine z22 ?_ | refine z24 ?_ | exact z25 | refine z26 ?_ rfl rfl ?_ | refine z23 ?_ | refine z27 ?_ rfl rfl ?_ ?_ | refine z28 ?_ rfl rfl ?_ ?_ ?_ | exact True.intro | exact z4 rfl | exact z5 | exact z6 | exact z7 | exact z8 | exact z9 | exact z10 | refine z37 ?_ | refine z38 rfl ?_ | exact z39 | exact z40 | refine z41 (xs := ?_) (ys := ?_) ?_ ?_ | refine z42 (xs := ?_) (ys := ?_) ?_ ?_ ?_ ?_ | refine z43 (xs := ?_) ?_ | refine z44 (xs := ?_) ?_ | refine z45 (x := ?_) (xs := ?_) ?_ ?_ | (with_reducible show RowIs _ _ _; first | exact GTable_row _ | exact GTable_mk _ _ _ | exact GTableRange_row _ | exact GTableRange_mk _ _ _) | with_reducible exact rfl | (refine z11 ?_; omega) | (refine z12 ?_; omega) | simp only [List.length_append, List.length_map, List.length_cons, List.length_nil]))); (focus (repeat' (first | simp only [z1, z2, z3, Nat.reduceEqDiff, Nat.reduceLT, not_false_eq_true] | exact z29 | refine z30 ?_ ?_ | exact z32 | refine z33 ?_ ?_ | refine z31 ?_ | exact z34 | refine z35 rfl ?_ ?_ | refine z36 ?_ | exact z13 | exact z14 | exact z15 | exact z16 | refine z17 ?_ | refine z18 rfl ?_ | refine z19 rfl ?_ ?_ | (show lτ _ _ = some _; exact rfl) | exact z21 rfl rfl | refine z21 rfl ?_ | refine z22 ?_ | refine z24 ?_ | exact z25 | refine z26 ?_ rfl rfl ?_ | refine z23 ?_ | refine z27 ?_ rfl rfl ?_ ?_ | refine z28 ?_ rfl rfl ?_ ?_ ?_ | exact True.intro | exact z4 rfl | exact z5 | exact z6 | exact z7 | exact z8 | exact z9 | exact z10 | refine z37 ?_ | refine z38 rfl ?_ | exact z39 | exact z40 | refine z41 (xs := ?_) (ys := ?_) ?_ ?_ | refine z42 (xs := ?_) (ys := ?_) ?_ ?_ ?_ ?_ | refine z43 (xs := ?_) ?_ | refine z44 (xs := ?_) ?_ | refine z45 (x := ?_) (xs := ?_) ?_ ?_ | (with_reducible show RowIs _ _ _; first | exact GTable_row _ | exact GTable_mk _ _ _ | exact GTableRange_row _ | exact GTableRange_mk _ _ _) | with_reducible exact rfl | (refine z11 ?_; omega) | (refine z12 ?_; omega) | simp only [List.length_append, List.length_map, List.length_cons, List.length_nil]))); rotate_left 1; (focus ((try dsimp only); omega)))
    | ((guard_hyp t0; refine cutK (⟨?_, ?_, ?_⟩, ?_, ⟨?_, ?_, ?_⟩, ?_) (Ent.places [.cell 12 2, .slot 5, .slot 10, .slot 12] _ (by simp only [go_sem, reduceCtorEq, Nat.reduceAdd, Nat.reduceSub, Nat.reduceMul, Nat.reduceLeDiff, Nat.reduceLT, Nat.reduceEqDiff]; rfl) rfl rfl (Nat.zero_le _) ?_ ?_) ?_; rotate_left 8); (focus (repeat' (first | simp only [z1, z2, z3, Nat.reduceEqDiff, Nat.reduceLT, not_false_eq_true] | exact z29 | refine z30 ?_ ?_ | exact z32 | refine z33 ?_ ?_ | refine z31 ?_ | exact z34 | refine z35 rfl ?_ ?_ | refine z36 ?_ | exact z13 | exact z14 | exact z15 | exact z16 | refine z17 ?_ | refine z18 rfl ?_ | refine z19 rfl ?_ ?_ | (show lτ _ _ = some _; exact rfl) | exact z21 rfl rfl | refine z21 rfl ?_ | refine z22 ?_ | refine z24 ?_ | exact z25 | refine z26 ?_ rfl rfl ?_ | refine z23 ?_ | refine z27 ?_ rfl rfl ?_ ?_ | refine z28 ?_ rfl rfl ?_ ?_ ?_ | exact True.intro | exact z4 rfl | exact z5 | exact z6 | exact z7 | exact z8 | exact z9 | exact z10 | refine z37 ?_ | refine z38 rfl ?_ | exact z39 | exact z40 | refine z41 (xs := ?_) (ys := ?_) ?_ ?_ | refine z42 (xs := ?_) (ys := ?_) ?_ ?_ ?_ ?_ | refine z43 (xs := ?_) ?_ | refine z44 (xs := ?_) ?_ | refine z45 (x := ?_) (xs := ?_) ?_ ?_ | (with_reducible show RowIs _ _ _; first | exact GTable_row _ | exact GTable_mk _ _ _ | exact GTableRange_row _ | exact GTableRange_mk _ _ _) | with_reducible exact rfl | (refine z11 ?_; omega) | (refine z12 ?_; omega) | simp only [List.length_append, List.length_map, List.length_cons, List.length_nil]))); (focus (repeat' (first | simp only [z1, z2, z3, Nat.reduceEqDiff, Nat.reduceLT, not_false_eq_true] | exact z29 | refine z30 ?_ ?_ | exact z32 | refine z33 ?_ ?_ | refine z31 ?_ | exact z34 | refine z35 rfl ?_ ?_ | refine z36 ?_ | exact z13 | exact z14 | exact z15 | exact z16 | refine z17 ?_ | refine z18 rfl ?_ | refine z19 rfl ?_ ?_ | (show lτ _ _ = some _; exact rfl) | exact z21 rfl rfl | refine z21 rfl ?_ | refine z22 ?_ | refine z24 ?_ | exact z25 | refine z26 ?_ rfl rfl ?_ | refine z23 ?_ | refine z27 ?_ rfl rfl ?_ ?_ | refine z28 ?_ rfl rfl ?_ ?_ ?_ | exact True.intro | exact z4 rfl | exact z5 | exact z6 | exact z7 | exact z8 | exact z9 | exact z10 | refine z37 ?_ | refine z38 rfl ?_ | exact z39 | exact z40 | refine z41 (xs := ?_) (ys := ?_) ?_ ?_ | refine z42 (xs := ?_) (ys := ?_) ?_ ?_ ?_ ?_ | refine z43 (xs := ?_) ?_ | refine z44 (xs := ?_) ?_ | refine z45 (x := ?_) (xs := ?_) ?_ ?_ | (with_reducible show RowIs _ _ _; first | exact GTable_row _ | exact GTable_mk _ _ _ | exact GTableRange_row _ | exact GTableRange_mk _ _ _) | with_reducible exact rfl | (refine z11 ?_; omega) | (refine z12 ?_; omega) | simp only [List.length_append, List.length_map, List.length_cons, List.length_nil]))))
    | ((guard_hyp t0; refine EndK.eqv (vs := ?_) (f := fun x : Bool => .lit (.bool x)) ?_ (by first | exact .inr rfl | exact .inl rfl) ?_ ?_ ?_; rotate_left 2); (focus (simp only [go_sem, reduceCtorEq, Nat.reduceAdd, Nat.reduceSub, Nat.reduceMul, Nat.reduceLeDiff, Nat.reduceLT, Nat.reduceEqDiff]; exact rfl)); (focus (repeat' (first | simp only [z1, z2, z3, Nat.reduceEqDiff, Nat.reduceLT, not_false_eq_true] | exact z29 | refine z30 ?_ ?_ | exact z32 | refine z33 ?_ ?_ | refine z31 ?_ | exact z34 | refine z35 rfl ?_ ?_ | refine z36 ?_ | exact z13 | exact z14 | exact z15 | exact z16 | refine z17 ?_ | refine z18 rfl ?_ | refine z19 rfl ?_ ?_ | (show lτ _ _ = some _; exact rfl) | exact z21 rfl rfl | refine z21 rfl ?_ | refine z22 ?_ | refine z24 ?_ | exact z25 | refine z26 ?_ rfl rfl ?_ | refine z23 ?_ | refine z27 ?_ rfl rfl ?_ ?_ | refine z28 ?_ rfl rfl ?_ ?_ ?_ | exact True.intro | exact z4 rfl | exact z5 | exact z6 | exact z7 | exact z8 | exact z9 | exact z10 | refine z37 ?_ | refine z38 rfl ?_ | exact z39 | exact z40 | refine z41 (xs := ?_) (ys := ?_) ?_ ?_ | refine z42 (xs := ?_) (ys := ?_) ?_ ?_ ?_ ?_ | refine z43 (xs := ?_) ?_ | refine z44 (xs := ?_) ?_ | refine z45 (x := ?_) (xs := ?_) ?_ ?_ | (with_reducible show RowIs _ _ _; first | exact GTable_row _ | exact GTable_mk _ _ _ | exact GTableRange_row _ | exact GTableRange_mk _ _ _) | with_reducible exact rfl | (refine z11 ?_; omega) | (refine z12 ?_; omega) | simp only [List.length_append, List.length_map, List.length_cons, List.length_nil])))))
  all_goals (try clear h1); all_goals (try clear K1); all_goals (try clear hK); all_goals (try clear K); all_goals (try dsimp only); all_goals (try simp only [Bool.not_eq_false', Bool.not_eq_true', decide_eq_true_eq, decide_eq_false_iff_not] at *); all_goals (try simp only [GTable_eta, GTableRange_eta] at *)
  all_goals first
    | omega
    | (guard_hyp t0; first | ((with_reducible exact law_all _ _)) | ((rw [law_all]; with_reducible exact law_K _ _ _ _)) | ((rw [law_all, hI.2.2]; with_reducible exact law_K _ _ _ _)) | ((have hd := draw_len code; omega)) | ((with_reducible rfl)) | ((with_reducible exact hI.2.2)) | ((have hx := hC.2; omega)) | ((with_reducible exact facts_split _ _)) | ((with_reducible exact facts_merge _ _)) | ((with_reducible exact facts_move _ _ _)) | ((with_reducible exact facts_join _ _)) | ((with_reducible exact facts_leave _ _)) | ((have hl := len_split (t := t) at_ (by omega); omega)) | ((have hl := len_merge (t := t) at_ (by omega); omega)) | ((have hl := len_move (t := t) at_ to_ (by omega); omega)) | ((have hl := len_join (t := t) to_ (by omega); omega)) | ((have hl := len_leave (t := t) to_ (by omega); omega)) | ((exfalso; have f := hC.1.no; have ho := hI.2.2; simp only at f; clear hM hI hp0 hp1; grind)))
    | grind)
theorem lw_FnTableCodes_c : Slw_FnTableCodes_c := layL11
end Go.Proofs.Ytlojldccjmkikaa
