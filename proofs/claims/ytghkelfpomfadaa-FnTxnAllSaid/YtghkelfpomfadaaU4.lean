/- Contracts of the program on transactions in form, for lists whose lengths are bounded as stated. -/
import Derived.Test.YtghkelfpomfadaaU1
set_option linter.unusedVariables false
set_option linter.unusedSimpArgs false
section
namespace Go.Proofs.Ytghkelfpomfadaa
open Go.Ae
open Go.Ae renaming getR_eq → z1, getR_ne → z2, getR_nil → z3, lF_mk → z4, cont1 → z5, cont2a → z6, cont2b → z7, cont3a → z8, cont3b → z9, cont3c → z10, wr_up → z11, wr_dn → z12
open Go.Ae.VSub renaming any' → z13, same → z14, nilRd → z15, mtRd → z16, lit → z17, ptr' → z18, sl' → z19, slNil → z20, agg' → z21, tup' → z22, fn' → z23, rpSame → z24, rpF → z25, frz → z26, frzC → z27
open Go.Ae.LSub renaming nil' → z28, cons' → z29, mkR' → z30
open Go.Ae.SSub renaming nil' → z31, cons' → z32
open Go.Ae.HTell renaming nil' → z33, some' → z34, freshRows → z35
open Go.Ae.BSub renaming cells' → z36, own → z37
open Go.Ae.RowsAre renaming map → z38, nil → z39, app → z40, spl → z41, take → z42, drop → z43, cons → z44
set_option linter.unusedSimpArgs false
set_option linter.unusedVariables false
attribute [local irreducible] wr bitsOf VSub LSub SSub HTell BSub RowIs RowsAre Ent lF mkR
def im_TxnOk_1 (x : GTxnGuard) : Bool :=
  (((!(im_isKey x.Key)) || (!(im_isVal x.Least))) || (!(im_isVal x.Most)))
def im_TxnOk_2 (x : GTxnSum) : Bool :=
  (((!(im_isKey x.Key)) || ((x.From != (-1)) && (!(im_isKey x.From)))) || (!(im_isVal x.Add)))
def im_TxnOk_3 (k : Int) : Bool :=
  (!(im_isKey k))
def im_TxnOk_4 (x : GTxnGuard) : Int :=
  x.Key
def im_TxnOk_5 (x : GTxnSum) : Int :=
  x.Key
def im_own (n : Int) : Int :=
  n
def Sim_TxnOk_1_c : Prop := ∀ (x : GTxnGuard), Gives Try.prog 34 [.agg [.lit (.int .i64 x.Key), .lit (.int .i64 x.Least), .lit (.int .i64 x.Most)]] (.lit (.bool (im_TxnOk_1 x)))
def Sim_TxnOk_2_c : Prop := ∀ (x : GTxnSum), Gives Try.prog 36 [.agg [.lit (.int .i64 x.Key), .lit (.int .i64 x.From), .lit (.int .i64 x.Add)]] (.lit (.bool (im_TxnOk_2 x)))
def Sim_TxnOk_3_c : Prop := ∀ (k : Int), Gives Try.prog 40 [.lit (.int .i64 k)] (.lit (.bool (im_TxnOk_3 k)))
def Sim_TxnOk_4_c : Prop := ∀ (x : GTxnGuard), Gives Try.prog 42 [.agg [.lit (.int .i64 x.Key), .lit (.int .i64 x.Least), .lit (.int .i64 x.Most)]] (.lit (.int .i64 (im_TxnOk_4 x)))
def Sim_TxnOk_5_c : Prop := ∀ (x : GTxnSum), Gives Try.prog 44 [.agg [.lit (.int .i64 x.Key), .lit (.int .i64 x.From), .lit (.int .i64 x.Add)]] (.lit (.int .i64 (im_TxnOk_5 x)))
def Sim_own_c : Prop := ∀ (n : Int), Gives Try.prog 46 [.lit (.int .i64 n)] (.lit (.int .i64 (im_own n)))
set_option maxRecDepth 10000 in
set_option maxHeartbeats 12000000 in
theorem layU41 : (Sim_TxnOk_1_c) ∧ (Sim_TxnOk_2_c) ∧ (Sim_TxnOk_3_c) ∧ (Sim_TxnOk_4_c) ∧ (Sim_TxnOk_5_c) ∧ (Sim_own_c) := by
  refine ⟨fun x => have t0 := tg 0; Does.goR Try.func34 Try.ntmps34 Try.results34 rfl (Nat.zero_le _) rfl ?_,
    fun x => have t1 := tg 1; Does.goR Try.func36 Try.ntmps36 Try.results36 rfl (Nat.zero_le _) rfl ?_,
    fun k => have t2 := tg 2; Does.goR Try.func40 Try.ntmps40 Try.results40 rfl (Nat.zero_le _) rfl ?_,
    fun x => have t3 := tg 3; Does.goR Try.func42 Try.ntmps42 Try.results42 rfl (Nat.zero_le _) rfl ?_,
    fun x => have t4 := tg 4; Does.goR Try.func44 Try.ntmps44 Try.results44 rfl (Nat.zero_le _) rfl ?_,
    fun n => have t5 := tg 5; Does.goR Try.func46 Try.ntmps46 Try.results46 rfl (Nat.zero_le _) rfl ?_⟩
  all_goals (
  simp only [argR, Nat.reduceAdd]
  repeat' (first
    | ((with_reducible show Aft _ _ _ _);(first|refine Aft.t ?_|refine Aft.q ?_|refine Aft.b ?_|refine Aft.e ?_|refine Aft.tr ?_|refine Aft.br ?_|refine Aft.qr ?_|refine Aft.tx ?_|refine Aft.bx ?_|refine Aft.by' rfl ?_|refine Aft.qx ?_))
    | ((with_reducible show RegS _ _ _ _ _ _);(first
      | (refine RegS.nil (hK _ _ ?_);clear hK K)
      | ((first|refine RegS.stepN fun K1 h1 => ?_|refine RegS.step fun K1 h1 => ?_);simp only [go_sem,reduceCtorEq,Nat.reduceAdd,Nat.reduceSub,Nat.reduceMul,Nat.reduceLeDiff,Nat.reduceLT,Nat.reduceEqDiff])))
    | ((with_reducible show QuietS _ _ _ _ _ _);(first
      | (refine QuietS.nil (hK _ _ ?_);clear hK K)
      | ((first|refine QuietS.stepN fun K1 h1 => ?_|refine QuietS.step fun K1 h1 => ?_);simp only [go_sem,reduceCtorEq,Nat.reduceAdd,Nat.reduceSub,Nat.reduceMul,Nat.reduceLeDiff,Nat.reduceLT,Nat.reduceEqDiff])))
    | ((with_reducible show Tri _ _ _ _ _ _);(first
      | (refine Tri.regSeq fun K hK => RegS.run ?_)
      | (refine Tri.regA fun K hK => ?_)
      | (refine Tri.cond (b := ?_) ?_ ?_ ?_;rotate_left 1;focus (simp only [ev,z1,z2,Nat.reduceEqDiff,Nat.reduceLT,not_false_eq_true];exact rfl))
      | refine Tri.skipA ?_
      | refine Tri.exitA ?_
      | refine Tri.retA ?_
      | refine Tri.block ?_
      | refine Tri.seq ?_))
    | ((with_reducible show CallA _ _ _ _ _);(first
      | ((first
      | (refine CallA.gv0 (im_isVal_c ?_) ?_ ?_;rotate_left 1)
      | (refine CallA.gv0 (im_isKey_c ?_) ?_ ?_;rotate_left 1)
      ); (focus ((repeat' (first | simp only [z1, z2, z3, Nat.reduceEqDiff, Nat.reduceLT, not_false_eq_true] | exact z28 | refine z29 ?_ ?_ | exact z31 | refine z32 ?_ ?_ | refine z30 ?_ | exact z33 | refine z34 rfl ?_ ?_ | refine z35 ?_ | exact z13 | exact z14 | exact z15 | exact z16 | refine z17 ?_ | refine z18 rfl ?_ | refine z19 rfl ?_ ?_ | (show lτ _ _ = some _; exact rfl) | exact z20 rfl rfl | refine z20 rfl ?_ | refine z21 ?_ | refine z23 ?_ | exact z24 | refine z25 ?_ rfl rfl ?_ | refine z22 ?_ | refine z26 ?_ rfl rfl ?_ ?_ | refine z27 ?_ rfl rfl ?_ ?_ ?_ | exact True.intro | exact z4 rfl | exact z5 | exact z6 | exact z7 | exact z8 | exact z9 | exact z10 | refine z36 ?_ | refine z37 rfl ?_ | exact z38 | exact z39 | refine z40 (xs := ?_) (ys := ?_) ?_ ?_ | refine z41 (xs := ?_) (ys := ?_) ?_ ?_ ?_ ?_ | refine z42 (xs := ?_) ?_ | refine z43 (xs := ?_) ?_ | refine z44 (x := ?_) (xs := ?_) ?_ ?_ | refine RowsAre.rep (x := ?_) (n := ?_) ?_ | (with_reducible show RowIs _ _ _; first | exact Int_row _ | exact Str_row _) | (with_reducible show RowIs _ _ _; first | exact GTxnGuard_row _ | exact GTxnGuard_mk _ _ _ | exact GTxnSum_row _ | exact GTxnSum_mk _ _ _) | with_reducible exact rfl | (refine z11 ?_; omega) | (refine z12 ?_; omega) | simp only [List.length_append, List.length_map, List.length_cons, List.length_nil, List.length_set, List.length_replicate])); (all_goals (fail_if_success (with_reducible show FZ _ _))); (all_goals (fail_if_success (with_reducible show List.contains _ _ = true))); (all_goals (fail_if_success (with_reducible show False))); (all_goals (fail_if_success (with_reducible show VSub _ _ _ _ _ _))))))
      | ((first
      | (refine CallA.lend (im_isVal_c ?_) rfl ?_ ?_;rotate_left 1)
      | (refine CallA.lend (im_isKey_c ?_) rfl ?_ ?_;rotate_left 1)
      ); (focus ((repeat' (first | simp only [z1, z2, z3, Nat.reduceEqDiff, Nat.reduceLT, not_false_eq_true] | exact z28 | refine z29 ?_ ?_ | exact z31 | refine z32 ?_ ?_ | refine z30 ?_ | exact z33 | refine z34 rfl ?_ ?_ | refine z35 ?_ | exact z13 | exact z14 | exact z15 | exact z16 | refine z17 ?_ | refine z18 rfl ?_ | refine z19 rfl ?_ ?_ | (show lτ _ _ = some _; exact rfl) | exact z20 rfl rfl | refine z20 rfl ?_ | refine z21 ?_ | refine z23 ?_ | exact z24 | refine z25 ?_ rfl rfl ?_ | refine z22 ?_ | refine z26 ?_ rfl rfl ?_ ?_ | refine z27 ?_ rfl rfl ?_ ?_ ?_ | exact True.intro | exact z4 rfl | exact z5 | exact z6 | exact z7 | exact z8 | exact z9 | exact z10 | refine z36 ?_ | refine z37 rfl ?_ | exact z38 | exact z39 | refine z40 (xs := ?_) (ys := ?_) ?_ ?_ | refine z41 (xs := ?_) (ys := ?_) ?_ ?_ ?_ ?_ | refine z42 (xs := ?_) ?_ | refine z43 (xs := ?_) ?_ | refine z44 (x := ?_) (xs := ?_) ?_ ?_ | refine RowsAre.rep (x := ?_) (n := ?_) ?_ | (with_reducible show RowIs _ _ _; first | exact Int_row _ | exact Str_row _) | (with_reducible show RowIs _ _ _; first | exact GTxnGuard_row _ | exact GTxnGuard_mk _ _ _ | exact GTxnSum_row _ | exact GTxnSum_mk _ _ _) | with_reducible exact rfl | (refine z11 ?_; omega) | (refine z12 ?_; omega) | simp only [List.length_append, List.length_map, List.length_cons, List.length_nil, List.length_set, List.length_replicate])); (all_goals (fail_if_success (with_reducible show FZ _ _))); (all_goals (fail_if_success (with_reducible show List.contains _ _ = true))); (all_goals (fail_if_success (with_reducible show False))); (all_goals (fail_if_success (with_reducible show VSub _ _ _ _ _ _))))))))
    | ((with_reducible show CallL _ _ _ _);(first
      | ((first
      | (refine CallL.gv0 (im_isVal_c ?_) ?_ ?_;rotate_left 1)
      | (refine CallL.gv0 (im_isKey_c ?_) ?_ ?_;rotate_left 1)
      ); (focus ((repeat' (first | simp only [z1, z2, z3, Nat.reduceEqDiff, Nat.reduceLT, not_false_eq_true] | exact z28 | refine z29 ?_ ?_ | exact z31 | refine z32 ?_ ?_ | refine z30 ?_ | exact z33 | refine z34 rfl ?_ ?_ | refine z35 ?_ | exact z13 | exact z14 | exact z15 | exact z16 | refine z17 ?_ | refine z18 rfl ?_ | refine z19 rfl ?_ ?_ | (show lτ _ _ = some _; exact rfl) | exact z20 rfl rfl | refine z20 rfl ?_ | refine z21 ?_ | refine z23 ?_ | exact z24 | refine z25 ?_ rfl rfl ?_ | refine z22 ?_ | refine z26 ?_ rfl rfl ?_ ?_ | refine z27 ?_ rfl rfl ?_ ?_ ?_ | exact True.intro | exact z4 rfl | exact z5 | exact z6 | exact z7 | exact z8 | exact z9 | exact z10 | refine z36 ?_ | refine z37 rfl ?_ | exact z38 | exact z39 | refine z40 (xs := ?_) (ys := ?_) ?_ ?_ | refine z41 (xs := ?_) (ys := ?_) ?_ ?_ ?_ ?_ | refine z42 (xs := ?_) ?_ | refine z43 (xs := ?_) ?_ | refine z44 (x := ?_) (xs := ?_) ?_ ?_ | refine RowsAre.rep (x := ?_) (n := ?_) ?_ | (with_reducible show RowIs _ _ _; first | exact Int_row _ | exact Str_row _) | (with_reducible show RowIs _ _ _; first | exact GTxnGuard_row _ | exact GTxnGuard_mk _ _ _ | exact GTxnSum_row _ | exact GTxnSum_mk _ _ _) | with_reducible exact rfl | (refine z11 ?_; omega) | (refine z12 ?_; omega) | simp only [List.length_append, List.length_map, List.length_cons, List.length_nil, List.length_set, List.length_replicate])); (all_goals (fail_if_success (with_reducible show FZ _ _))); (all_goals (fail_if_success (with_reducible show List.contains _ _ = true))); (all_goals (fail_if_success (with_reducible show False))); (all_goals (fail_if_success (with_reducible show VSub _ _ _ _ _ _))))))))
    | ((with_reducible show EndK _ _ _ _ _ _ _);(first
      | ((first
      | (guard_hyp t0;refine EndK.eqv (vs := ?_) (f := fun x : Bool => .lit (.bool x)) ?_ (by first|exact .inr rfl|exact .inl rfl) ?_ ?_ ?_;rotate_left 2)
      | (guard_hyp t1;refine EndK.eqv (vs := ?_) (f := fun x : Bool => .lit (.bool x)) ?_ (by first|exact .inr rfl|exact .inl rfl) ?_ ?_ ?_;rotate_left 2)
      | (guard_hyp t2;refine EndK.eqv (vs := ?_) (f := fun x : Bool => .lit (.bool x)) ?_ (by first|exact .inr rfl|exact .inl rfl) ?_ ?_ ?_;rotate_left 2)
      | (guard_hyp t3;refine EndK.eqv (vs := ?_) (f := fun x : Int => .lit (.int .i64 x)) ?_ (by first|exact .inr rfl|exact .inl rfl) ?_ ?_ ?_;rotate_left 2)
      | (guard_hyp t4;refine EndK.eqv (vs := ?_) (f := fun x : Int => .lit (.int .i64 x)) ?_ (by first|exact .inr rfl|exact .inl rfl) ?_ ?_ ?_;rotate_left 2)
      | (guard_hyp t5;refine EndK.eqv (vs := ?_) (f := fun x : Int => .lit (.int .i64 x)) ?_ (by first|exact .inr rfl|exact .inl rfl) ?_ ?_ ?_;rotate_left 2)
      ); (focus (simp only [go_sem, reduceCtorEq, Nat.reduceAdd, Nat.reduceSub, Nat.reduceMul, Nat.reduceLeDiff, Nat.reduceLT, Nat.reduceEqDiff]; exact rfl)); (focus (repeat' (first | simp only [z1, z2, z3, Nat.reduceEqDiff, Nat.reduceLT, not_false_eq_true] | exact z28 | refine z29 ?_ ?_ | exact z31 | refine z32 ?_ ?_ | refine z30 ?_ | exact z33 | refine z34 rfl ?_ ?_ | refine z35 ?_ | exact z13 | exact z14 | exact z15 | exact z16 | refine z17 ?_ | refine z18 rfl ?_ | refine z19 rfl ?_ ?_ | (show lτ _ _ = some _; exact rfl) | exact z20 rfl rfl | refine z20 rfl ?_ | refine z21 ?_ | refine z23 ?_ | exact z24 | refine z25 ?_ rfl rfl ?_ | refine z22 ?_ | refine z26 ?_ rfl rfl ?_ ?_ | refine z27 ?_ rfl rfl ?_ ?_ ?_ | exact True.intro | exact z4 rfl | exact z5 | exact z6 | exact z7 | exact z8 | exact z9 | exact z10 | refine z36 ?_ | refine z37 rfl ?_ | exact z38 | exact z39 | refine z40 (xs := ?_) (ys := ?_) ?_ ?_ | refine z41 (xs := ?_) (ys := ?_) ?_ ?_ ?_ ?_ | refine z42 (xs := ?_) ?_ | refine z43 (xs := ?_) ?_ | refine z44 (x := ?_) (xs := ?_) ?_ ?_ | refine RowsAre.rep (x := ?_) (n := ?_) ?_ | (with_reducible show RowIs _ _ _; first | exact Int_row _ | exact Str_row _) | (with_reducible show RowIs _ _ _; first | exact GTxnGuard_row _ | exact GTxnGuard_mk _ _ _ | exact GTxnSum_row _ | exact GTxnSum_mk _ _ _) | with_reducible exact rfl | (refine z11 ?_; omega) | (refine z12 ?_; omega) | simp only [List.length_append, List.length_map, List.length_cons, List.length_nil, List.length_set, List.length_replicate]))))))
    | (refine h1 _ _ ?_;clear h1 K1)
    | refine And.intro ?_ ?_
    | ((first|with_reducible show (_ : Int) ≤ _|with_reducible show (_ : Int) < _|with_reducible show (_ : Int) = _|with_reducible show (_ : Nat) ≤ _|with_reducible show (_ : Nat) < _|with_reducible show (_ : Nat) = _|with_reducible show ¬ _|with_reducible show _ ≠ _|with_reducible show False);omega)
    | (intro h;(try simp only [decide_eq_true_eq,decide_eq_false_iff_not,Int.not_lt,Int.not_le,beq_iff_eq,bne_iff_ne,beq_eq_false_iff_ne,bne_eq_false_iff_eq,ne_eq,Bool.not_eq_true',Bool.not_eq_false',Decidable.not_not] at h);(try contradiction)))
  all_goals (try clear h1); all_goals (try clear K1); all_goals (try clear hK); all_goals (try clear K); all_goals (try dsimp only); all_goals (try simp only [Bool.not_eq_false', Bool.not_eq_true', decide_eq_true_eq, decide_eq_false_iff_not] at *); all_goals (try simp only [GTxnGuard_eta, GTxnSum_eta] at *)
  all_goals first
    | omega
    | (simp only [List.length_cons,List.length_nil,Nat.reduceAdd];done)
    | (simp only [List.length_set,List.length_append,List.length_cons,List.length_nil,List.length_map,List.length_take,List.length_drop];omega)
    | (obtain ⟨x,_,rfl⟩ := List.mem_map.1 (by assumption);rfl)
    | (obtain ⟨x,_,rfl⟩ := List.mem_map.1 (List.mem_of_mem_take (by assumption));rfl)
    | (obtain ⟨x,_,rfl⟩ := List.mem_map.1 (List.mem_of_mem_drop (List.mem_of_mem_take (by assumption)));rfl)
    | (simp (disch := omega) only [wr_id];omega)
    | (guard_hyp t0;first|(rw [im_TxnOk_1];all_goals first|grind|(repeat' split) <;> first|rfl|grind))
    | (guard_hyp t1;first|(rw [im_TxnOk_2];all_goals first|grind|(repeat' split) <;> first|rfl|grind))
    | (guard_hyp t2;first|(rw [im_TxnOk_3];all_goals first|grind|(repeat' split) <;> first|rfl|grind))
    | (guard_hyp t3;first|(rw [im_TxnOk_4];all_goals first|grind|(repeat' split) <;> first|rfl|grind))
    | (guard_hyp t4;first|(rw [im_TxnOk_5];all_goals first|grind|(repeat' split) <;> first|rfl|grind))
    | (guard_hyp t5;first|(rw [im_own];all_goals first|grind|(repeat' split) <;> first|rfl|grind))
    | grind)
theorem im_TxnOk_1_c : Sim_TxnOk_1_c := layU41.1
theorem im_TxnOk_2_c : Sim_TxnOk_2_c := layU41.2.1
theorem im_TxnOk_3_c : Sim_TxnOk_3_c := layU41.2.2.1
theorem im_TxnOk_4_c : Sim_TxnOk_4_c := layU41.2.2.2.1
theorem im_TxnOk_5_c : Sim_TxnOk_5_c := layU41.2.2.2.2.1
theorem im_own_c : Sim_own_c := layU41.2.2.2.2.2
end Go.Proofs.Ytghkelfpomfadaa
end
section
namespace Go.Proofs.Ytghkelfpomfadaa
open Go.Ae
open Go.Ae renaming getR_eq → z1, getR_ne → z2, getR_nil → z3, lF_mk → z4, cont1 → z5, cont2a → z6, cont2b → z7, cont3a → z8, cont3b → z9, cont3c → z10, wr_up → z11, wr_dn → z12
open Go.Ae.VSub renaming any' → z13, same → z14, nilRd → z15, mtRd → z16, lit → z17, ptr' → z18, sl' → z19, slNil → z20, agg' → z21, tup' → z22, fn' → z23, rpSame → z24, rpF → z25, frz → z26, frzC → z27
open Go.Ae.LSub renaming nil' → z28, cons' → z29, mkR' → z30
open Go.Ae.SSub renaming nil' → z31, cons' → z32
open Go.Ae.HTell renaming nil' → z33, some' → z34, freshRows → z35
open Go.Ae.BSub renaming cells' → z36, own → z37
open Go.Ae.RowsAre renaming map → z38, nil → z39, app → z40, spl → z41, take → z42, drop → z43, cons → z44
open Go.Ae.CallA renaming gv0 → z45, lend → z46
set_option linter.unusedSimpArgs false
set_option linter.unusedVariables false
attribute [local irreducible] wr bitsOf VSub LSub SSub HTell BSub RowIs RowsAre Ent lF mkR
def im_rising_TxnGuard_f_im_TxnOk_4_L1 (list : List GTxnGuard) (i : Nat) : Fl (Bool) (Unit) :=
  if h0 : ((i : Int) < (list.length : Int)) then
      if ((im_TxnOk_4 (list.getD i default)) ≤ (im_TxnOk_4 (list.getD (wr .i64 ((i : Int) - 1)).toNat default))) then
        .ret false
      else 
        im_rising_TxnGuard_f_im_TxnOk_4_L1 list (i + 1)
  else .go ()
termination_by ((list.length : Int) - (i : Int)).toNat
decreasing_by all_goals omega
def im_rising_TxnGuard_f_im_TxnOk_4_K1 (list : List GTxnGuard) (i : Nat) : Bool :=
  match im_rising_TxnGuard_f_im_TxnOk_4_L1 list i with
  | .ret rr => rr
  | .go q =>
    true
def im_rising_TxnGuard_f_im_TxnOk_4 (list : List GTxnGuard) : Bool :=
  let i : Nat := 1
  im_rising_TxnGuard_f_im_TxnOk_4_K1 list i
def im_rising_TxnSum_f_im_TxnOk_5_L1 (list : List GTxnSum) (i : Nat) : Fl (Bool) (Unit) :=
  if h0 : ((i : Int) < (list.length : Int)) then
      if ((im_TxnOk_5 (list.getD i default)) ≤ (im_TxnOk_5 (list.getD (wr .i64 ((i : Int) - 1)).toNat default))) then
        .ret false
      else 
        im_rising_TxnSum_f_im_TxnOk_5_L1 list (i + 1)
  else .go ()
termination_by ((list.length : Int) - (i : Int)).toNat
decreasing_by all_goals omega
def im_rising_TxnSum_f_im_TxnOk_5_K1 (list : List GTxnSum) (i : Nat) : Bool :=
  match im_rising_TxnSum_f_im_TxnOk_5_L1 list i with
  | .ret rr => rr
  | .go q =>
    true
def im_rising_TxnSum_f_im_TxnOk_5 (list : List GTxnSum) : Bool :=
  let i : Nat := 1
  im_rising_TxnSum_f_im_TxnOk_5_K1 list i
def im_rising_int_f_im_own_L1 (list : List Int) (i : Nat) : Fl (Bool) (Unit) :=
  if h0 : ((i : Int) < (list.length : Int)) then
      if ((im_own (list.getD i default)) ≤ (im_own (list.getD (wr .i64 ((i : Int) - 1)).toNat default))) then
        .ret false
      else 
        im_rising_int_f_im_own_L1 list (i + 1)
  else .go ()
termination_by ((list.length : Int) - (i : Int)).toNat
decreasing_by all_goals omega
def im_rising_int_f_im_own_K1 (list : List Int) (i : Nat) : Bool :=
  match im_rising_int_f_im_own_L1 list i with
  | .ret rr => rr
  | .go q =>
    true
def im_rising_int_f_im_own (list : List Int) : Bool :=
  let i : Nat := 1
  im_rising_int_f_im_own_K1 list i
def Sim_rising_TxnGuard_f_im_TxnOk_4_c : Prop := ∀ (list : List GTxnGuard) (hp0 : list.length ≤ 2147483648), Gives Try.prog 41 [.r (.rd 3 encGTxnGuard list), .fn 42 []] (.lit (.bool (im_rising_TxnGuard_f_im_TxnOk_4 list)))
def Sim_rising_TxnSum_f_im_TxnOk_5_c : Prop := ∀ (list : List GTxnSum) (hp0 : list.length ≤ 2147483648), Gives Try.prog 43 [.r (.rd 3 encGTxnSum list), .fn 44 []] (.lit (.bool (im_rising_TxnSum_f_im_TxnOk_5 list)))
def Sim_rising_int_f_im_own_c : Prop := ∀ (list : List Int) (hp0 : list.length ≤ 2147483648), Gives Try.prog 45 [.r (.rd 1 encInt list), .fn 46 []] (.lit (.bool (im_rising_int_f_im_own list)))
set_option maxRecDepth 10000 in
set_option maxHeartbeats 6000000 in
theorem layU51 : (Sim_rising_TxnGuard_f_im_TxnOk_4_c) ∧ (Sim_rising_TxnSum_f_im_TxnOk_5_c) ∧ (Sim_rising_int_f_im_own_c) := by
  refine ⟨fun list hp0 => have t0 := tg 0; Does.goR Try.func41 Try.ntmps41 Try.results41 rfl (Nat.zero_le _) rfl ?_,
    fun list hp0 => have t1 := tg 1; Does.goR Try.func43 Try.ntmps43 Try.results43 rfl (Nat.zero_le _) rfl ?_,
    fun list hp0 => have t2 := tg 2; Does.goR Try.func45 Try.ntmps45 Try.results45 rfl (Nat.zero_le _) rfl ?_⟩
  all_goals (
  simp only [argR, Nat.reduceAdd]
  repeat' (first
    | ((with_reducible show Aft _ _ _ _);(first|refine Aft.t ?_|refine Aft.q ?_|refine Aft.b ?_|refine Aft.e ?_|refine Aft.tr ?_|refine Aft.br ?_|refine Aft.qr ?_|refine Aft.tx ?_|refine Aft.bx ?_|refine Aft.by' rfl ?_|refine Aft.qx ?_))
    | ((with_reducible show RegS _ _ _ _ _ _);(first
      | (refine RegS.nil (hK _ _ ?_);clear hK K)
      | ((first|refine RegS.stepN fun K1 h1 => ?_|refine RegS.step fun K1 h1 => ?_);simp only [go_sem,reduceCtorEq,Nat.reduceAdd,Nat.reduceSub,Nat.reduceMul,Nat.reduceLeDiff,Nat.reduceLT,Nat.reduceEqDiff])))
    | ((with_reducible show TreeS _ _ _ _ _ _ _ _);(first
      | (refine TreeS.nil (hK _ _ ?_);clear hK K)
      | (refine TreeS.fork ?_ ?_)
      | ((first|refine TreeS.stepN rfl fun K1 h1 => ?_|refine TreeS.step fun K1 h1 => ?_);simp only [go_sem,reduceCtorEq,Nat.reduceAdd,Nat.reduceSub,Nat.reduceMul,Nat.reduceLeDiff,Nat.reduceLT,Nat.reduceEqDiff])))
    | ((with_reducible show QuietS _ _ _ _ _ _);(first
      | (refine QuietS.nil (hK _ _ ?_);clear hK K)
      | ((first|refine QuietS.stepN fun K1 h1 => ?_|refine QuietS.step fun K1 h1 => ?_);simp only [go_sem,reduceCtorEq,Nat.reduceAdd,Nat.reduceSub,Nat.reduceMul,Nat.reduceLeDiff,Nat.reduceLT,Nat.reduceEqDiff])))
    | ((with_reducible show Tri _ _ _ _ _ _);(first
      | (refine Tri.regSeq fun K hK => RegS.run ?_)
      | (refine Tri.regA fun K hK => ?_)
      | (refine Tri.cond (b := ?_) ?_ ?_ ?_;rotate_left 1;focus (simp only [ev,z1,z2,Nat.reduceEqDiff,Nat.reduceLT,not_false_eq_true];exact rfl))
      | refine Tri.skipA ?_
      | refine Tri.exitA ?_
      | refine Tri.retA ?_
      | refine Tri.block ?_
      | (guard_hyp t0;(first|(refine Tri.treeSeq 4 rfl mixedP false [0] [] (.op 0 0 (.op 1 0 (.op 2 0 (.op 3 0 (.op 6 0 (.op 7 0 (.op 8 0 (.op 9 0 (.op 10 0 (.op 4 1 (.op 11 1 (.op 5 2 (.op 12 2 (.op 13 0 .nil)))))))))))))) (by kernel_rfl) fun K hK => ?_;simp only [ballD,ballOf,ballX,cellIds,Heap.at,List.getD_cons_zero,List.getD_cons_succ,List.nil_append,List.cons_append,idOf,z1,z2,Nat.reduceEqDiff,Nat.reduceLT,not_false_eq_true])|(refine Tri.treeA 4 rfl mixedP false [0] [] (.op 0 0 (.op 1 0 (.op 2 0 (.op 3 0 (.op 6 0 (.op 7 0 (.op 8 0 (.op 9 0 (.op 10 0 (.op 4 1 (.op 11 1 (.op 5 2 (.op 12 2 (.op 13 0 .nil)))))))))))))) (by kernel_rfl) fun K hK => ?_;simp only [ballD,ballOf,ballX,cellIds,Heap.at,List.getD_cons_zero,List.getD_cons_succ,List.nil_append,List.cons_append,idOf,z1,z2,Nat.reduceEqDiff,Nat.reduceLT,not_false_eq_true]) ))
      | (guard_hyp t1;(first|(refine Tri.treeSeq 4 rfl mixedP false [0] [] (.op 0 0 (.op 1 0 (.op 2 0 (.op 3 0 (.op 6 0 (.op 7 0 (.op 8 0 (.op 9 0 (.op 10 0 (.op 4 1 (.op 11 1 (.op 5 2 (.op 12 2 (.op 13 0 .nil)))))))))))))) (by kernel_rfl) fun K hK => ?_;simp only [ballD,ballOf,ballX,cellIds,Heap.at,List.getD_cons_zero,List.getD_cons_succ,List.nil_append,List.cons_append,idOf,z1,z2,Nat.reduceEqDiff,Nat.reduceLT,not_false_eq_true])|(refine Tri.treeA 4 rfl mixedP false [0] [] (.op 0 0 (.op 1 0 (.op 2 0 (.op 3 0 (.op 6 0 (.op 7 0 (.op 8 0 (.op 9 0 (.op 10 0 (.op 4 1 (.op 11 1 (.op 5 2 (.op 12 2 (.op 13 0 .nil)))))))))))))) (by kernel_rfl) fun K hK => ?_;simp only [ballD,ballOf,ballX,cellIds,Heap.at,List.getD_cons_zero,List.getD_cons_succ,List.nil_append,List.cons_append,idOf,z1,z2,Nat.reduceEqDiff,Nat.reduceLT,not_false_eq_true]) ))
      | (guard_hyp t2;(first|(refine Tri.treeSeq 4 rfl mixedP false [0] [] (.op 0 0 (.op 1 0 (.op 2 0 (.op 3 0 (.op 6 0 (.op 7 0 (.op 8 0 (.op 9 0 (.op 10 0 (.op 4 1 (.op 11 1 (.op 5 2 (.op 12 2 (.op 13 0 .nil)))))))))))))) (by kernel_rfl) fun K hK => ?_;simp only [ballD,ballOf,ballX,cellIds,Heap.at,List.getD_cons_zero,List.getD_cons_succ,List.nil_append,List.cons_append,idOf,z1,z2,Nat.reduceEqDiff,Nat.reduceLT,not_false_eq_true])|(refine Tri.treeA 4 rfl mixedP false [0] [] (.op 0 0 (.op 1 0 (.op 2 0 (.op 3 0 (.op 6 0 (.op 7 0 (.op 8 0 (.op 9 0 (.op 10 0 (.op 4 1 (.op 11 1 (.op 5 2 (.op 12 2 (.op 13 0 .nil)))))))))))))) (by kernel_rfl) fun K hK => ?_;simp only [ballD,ballOf,ballX,cellIds,Heap.at,List.getD_cons_zero,List.getD_cons_succ,List.nil_append,List.cons_append,idOf,z1,z2,Nat.reduceEqDiff,Nat.reduceLT,not_false_eq_true]) ))
      | ((with_reducible show Tri _ _ (Code.loop _) _ _ _);(first
      | (guard_hyp t0;refine Tri.loopR (ι := Nat) 2 rfl (fun j => mkR 26 [(0,.r (.rd 3 encGTxnGuard list)),(1,.fn 42 []),(5,.lit (.int .i64 (j : Int)))]) (fun j => []) (fun j => im_rising_TxnGuard_f_im_TxnOk_4_K1 list j = im_rising_TxnGuard_f_im_TxnOk_4 list ∧ ((j : Int) ≤ (list.length : Int) ∨ j = 1) ∧ 1 ≤ j) (fun j => ((list.length : Int) - (j : Int)).toNat) 1 (Ent.places [] _ (by simp only [go_sem,reduceCtorEq,Nat.reduceAdd,Nat.reduceSub,Nat.reduceMul,Nat.reduceLeDiff,Nat.reduceLT,Nat.reduceEqDiff];rfl) rfl rfl (Nat.zero_le _) ?_ ?_) ?_ ?_;rotate_left 3;(focus (rintro i ⟨hM,hI⟩;(try dsimp only at hM hI)));rotate_right 3)
      | (guard_hyp t1;refine Tri.loopR (ι := Nat) 2 rfl (fun j => mkR 26 [(0,.r (.rd 3 encGTxnSum list)),(1,.fn 44 []),(5,.lit (.int .i64 (j : Int)))]) (fun j => []) (fun j => im_rising_TxnSum_f_im_TxnOk_5_K1 list j = im_rising_TxnSum_f_im_TxnOk_5 list ∧ ((j : Int) ≤ (list.length : Int) ∨ j = 1) ∧ 1 ≤ j) (fun j => ((list.length : Int) - (j : Int)).toNat) 1 (Ent.places [] _ (by simp only [go_sem,reduceCtorEq,Nat.reduceAdd,Nat.reduceSub,Nat.reduceMul,Nat.reduceLeDiff,Nat.reduceLT,Nat.reduceEqDiff];rfl) rfl rfl (Nat.zero_le _) ?_ ?_) ?_ ?_;rotate_left 3;(focus (rintro i ⟨hM,hI⟩;(try dsimp only at hM hI)));rotate_right 3)
      | (guard_hyp t2;refine Tri.loopR (ι := Nat) 2 rfl (fun j => mkR 26 [(0,.r (.rd 1 encInt list)),(1,.fn 46 []),(5,.lit (.int .i64 (j : Int)))]) (fun j => []) (fun j => im_rising_int_f_im_own_K1 list j = im_rising_int_f_im_own list ∧ ((j : Int) ≤ (list.length : Int) ∨ j = 1) ∧ 1 ≤ j) (fun j => ((list.length : Int) - (j : Int)).toNat) 1 (Ent.places [] _ (by simp only [go_sem,reduceCtorEq,Nat.reduceAdd,Nat.reduceSub,Nat.reduceMul,Nat.reduceLeDiff,Nat.reduceLT,Nat.reduceEqDiff];rfl) rfl rfl (Nat.zero_le _) ?_ ?_) ?_ ?_;rotate_left 3;(focus (rintro i ⟨hM,hI⟩;(try dsimp only at hM hI)));rotate_right 3)
      ); (focus (repeat' (first | simp only [z1, z2, z3, Nat.reduceEqDiff, Nat.reduceLT, not_false_eq_true] | exact z28 | refine z29 ?_ ?_ | exact z31 | refine z32 ?_ ?_ | refine z30 ?_ | exact z33 | refine z34 rfl ?_ ?_ | refine z35 ?_ | exact z13 | exact z14 | exact z15 | exact z16 | refine z17 ?_ | refine z18 rfl ?_ | refine z19 rfl ?_ ?_ | (show lτ _ _ = some _; exact rfl) | exact z20 rfl rfl | refine z20 rfl ?_ | refine z21 ?_ | refine z23 ?_ | exact z24 | refine z25 ?_ rfl rfl ?_ | refine z22 ?_ | refine z26 ?_ rfl rfl ?_ ?_ | refine z27 ?_ rfl rfl ?_ ?_ ?_ | exact True.intro | exact z4 rfl | exact z5 | exact z6 | exact z7 | exact z8 | exact z9 | exact z10 | refine z36 ?_ | refine z37 rfl ?_ | exact z38 | exact z39 | refine z40 (xs := ?_) (ys := ?_) ?_ ?_ | refine z41 (xs := ?_) (ys := ?_) ?_ ?_ ?_ ?_ | refine z42 (xs := ?_) ?_ | refine z43 (xs := ?_) ?_ | refine z44 (x := ?_) (xs := ?_) ?_ ?_ | refine RowsAre.rep (x := ?_) (n := ?_) ?_ | (with_reducible show RowIs _ _ _; first | exact Int_row _ | exact Str_row _) | (with_reducible show RowIs _ _ _; first | exact GTxnGuard_row _ | exact GTxnGuard_mk _ _ _ | exact GTxnSum_row _ | exact GTxnSum_mk _ _ _) | with_reducible exact rfl | (refine z11 ?_; omega) | (refine z12 ?_; omega) | simp only [List.length_append, List.length_map, List.length_cons, List.length_nil, List.length_set, List.length_replicate]))); (focus (repeat' (first | simp only [z1, z2, z3, Nat.reduceEqDiff, Nat.reduceLT, not_false_eq_true] | exact z28 | refine z29 ?_ ?_ | exact z31 | refine z32 ?_ ?_ | refine z30 ?_ | exact z33 | refine z34 rfl ?_ ?_ | refine z35 ?_ | exact z13 | exact z14 | exact z15 | exact z16 | refine z17 ?_ | refine z18 rfl ?_ | refine z19 rfl ?_ ?_ | (show lτ _ _ = some _; exact rfl) | exact z20 rfl rfl | refine z20 rfl ?_ | refine z21 ?_ | refine z23 ?_ | exact z24 | refine z25 ?_ rfl rfl ?_ | refine z22 ?_ | refine z26 ?_ rfl rfl ?_ ?_ | refine z27 ?_ rfl rfl ?_ ?_ ?_ | exact True.intro | exact z4 rfl | exact z5 | exact z6 | exact z7 | exact z8 | exact z9 | exact z10 | refine z36 ?_ | refine z37 rfl ?_ | exact z38 | exact z39 | refine z40 (xs := ?_) (ys := ?_) ?_ ?_ | refine z41 (xs := ?_) (ys := ?_) ?_ ?_ ?_ ?_ | refine z42 (xs := ?_) ?_ | refine z43 (xs := ?_) ?_ | refine z44 (x := ?_) (xs := ?_) ?_ ?_ | refine RowsAre.rep (x := ?_) (n := ?_) ?_ | (with_reducible show RowIs _ _ _; first | exact Int_row _ | exact Str_row _) | (with_reducible show RowIs _ _ _; first | exact GTxnGuard_row _ | exact GTxnGuard_mk _ _ _ | exact GTxnSum_row _ | exact GTxnSum_mk _ _ _) | with_reducible exact rfl | (refine z11 ?_; omega) | (refine z12 ?_; omega) | simp only [List.length_append, List.length_map, List.length_cons, List.length_nil, List.length_set, List.length_replicate]))); rotate_left 1)
      | refine Tri.seq ?_))
    | ((with_reducible show CallA _ _ _ _ _);(first
      | ((first
      | (refine z45 (im_TxnOk_4_c ⟨?_,?_,?_⟩) ?_ ?_;rotate_left 3)
      | (refine z45 (im_TxnOk_5_c ⟨?_,?_,?_⟩) ?_ ?_;rotate_left 3)
      | (refine z45 (im_own_c ?_) ?_ ?_;rotate_left 1)
      ); (focus ((repeat' (first | simp only [z1, z2, z3, Nat.reduceEqDiff, Nat.reduceLT, not_false_eq_true] | exact z28 | refine z29 ?_ ?_ | exact z31 | refine z32 ?_ ?_ | refine z30 ?_ | exact z33 | refine z34 rfl ?_ ?_ | refine z35 ?_ | exact z13 | exact z14 | exact z15 | exact z16 | refine z17 ?_ | refine z18 rfl ?_ | refine z19 rfl ?_ ?_ | (show lτ _ _ = some _; exact rfl) | exact z20 rfl rfl | refine z20 rfl ?_ | refine z21 ?_ | refine z23 ?_ | exact z24 | refine z25 ?_ rfl rfl ?_ | refine z22 ?_ | refine z26 ?_ rfl rfl ?_ ?_ | refine z27 ?_ rfl rfl ?_ ?_ ?_ | exact True.intro | exact z4 rfl | exact z5 | exact z6 | exact z7 | exact z8 | exact z9 | exact z10 | refine z36 ?_ | refine z37 rfl ?_ | exact z38 | exact z39 | refine z40 (xs := ?_) (ys := ?_) ?_ ?_ | refine z41 (xs := ?_) (ys := ?_) ?_ ?_ ?_ ?_ | refine z42 (xs := ?_) ?_ | refine z43 (xs := ?_) ?_ | refine z44 (x := ?_) (xs := ?_) ?_ ?_ | refine RowsAre.rep (x := ?_) (n := ?_) ?_ | (with_reducible show RowIs _ _ _; first | exact Int_row _ | exact Str_row _) | (with_reducible show RowIs _ _ _; first | exact GTxnGuard_row _ | exact GTxnGuard_mk _ _ _ | exact GTxnSum_row _ | exact GTxnSum_mk _ _ _) | with_reducible exact rfl | (refine z11 ?_; omega) | (refine z12 ?_; omega) | simp only [List.length_append, List.length_map, List.length_cons, List.length_nil, List.length_set, List.length_replicate])); (all_goals (fail_if_success (with_reducible show FZ _ _))); (all_goals (fail_if_success (with_reducible show List.contains _ _ = true))); (all_goals (fail_if_success (with_reducible show False))); (all_goals (fail_if_success (with_reducible show VSub _ _ _ _ _ _))))))
      | ((first
      | (refine z46 (im_TxnOk_4_c ⟨?_,?_,?_⟩) rfl ?_ ?_;rotate_left 3)
      | (refine z46 (im_TxnOk_5_c ⟨?_,?_,?_⟩) rfl ?_ ?_;rotate_left 3)
      | (refine z46 (im_own_c ?_) rfl ?_ ?_;rotate_left 1)
      ); (focus ((repeat' (first | simp only [z1, z2, z3, Nat.reduceEqDiff, Nat.reduceLT, not_false_eq_true] | exact z28 | refine z29 ?_ ?_ | exact z31 | refine z32 ?_ ?_ | refine z30 ?_ | exact z33 | refine z34 rfl ?_ ?_ | refine z35 ?_ | exact z13 | exact z14 | exact z15 | exact z16 | refine z17 ?_ | refine z18 rfl ?_ | refine z19 rfl ?_ ?_ | (show lτ _ _ = some _; exact rfl) | exact z20 rfl rfl | refine z20 rfl ?_ | refine z21 ?_ | refine z23 ?_ | exact z24 | refine z25 ?_ rfl rfl ?_ | refine z22 ?_ | refine z26 ?_ rfl rfl ?_ ?_ | refine z27 ?_ rfl rfl ?_ ?_ ?_ | exact True.intro | exact z4 rfl | exact z5 | exact z6 | exact z7 | exact z8 | exact z9 | exact z10 | refine z36 ?_ | refine z37 rfl ?_ | exact z38 | exact z39 | refine z40 (xs := ?_) (ys := ?_) ?_ ?_ | refine z41 (xs := ?_) (ys := ?_) ?_ ?_ ?_ ?_ | refine z42 (xs := ?_) ?_ | refine z43 (xs := ?_) ?_ | refine z44 (x := ?_) (xs := ?_) ?_ ?_ | refine RowsAre.rep (x := ?_) (n := ?_) ?_ | (with_reducible show RowIs _ _ _; first | exact Int_row _ | exact Str_row _) | (with_reducible show RowIs _ _ _; first | exact GTxnGuard_row _ | exact GTxnGuard_mk _ _ _ | exact GTxnSum_row _ | exact GTxnSum_mk _ _ _) | with_reducible exact rfl | (refine z11 ?_; omega) | (refine z12 ?_; omega) | simp only [List.length_append, List.length_map, List.length_cons, List.length_nil, List.length_set, List.length_replicate])); (all_goals (fail_if_success (with_reducible show FZ _ _))); (all_goals (fail_if_success (with_reducible show List.contains _ _ = true))); (all_goals (fail_if_success (with_reducible show False))); (all_goals (fail_if_success (with_reducible show VSub _ _ _ _ _ _))))))))
    | ((with_reducible show CallL _ _ _ _);(first
      | ((first
      | (refine CallL.gv0 (im_TxnOk_4_c ⟨?_,?_,?_⟩) ?_ ?_;rotate_left 3)
      | (refine CallL.gv0 (im_TxnOk_5_c ⟨?_,?_,?_⟩) ?_ ?_;rotate_left 3)
      | (refine CallL.gv0 (im_own_c ?_) ?_ ?_;rotate_left 1)
      ); (focus ((repeat' (first | simp only [z1, z2, z3, Nat.reduceEqDiff, Nat.reduceLT, not_false_eq_true] | exact z28 | refine z29 ?_ ?_ | exact z31 | refine z32 ?_ ?_ | refine z30 ?_ | exact z33 | refine z34 rfl ?_ ?_ | refine z35 ?_ | exact z13 | exact z14 | exact z15 | exact z16 | refine z17 ?_ | refine z18 rfl ?_ | refine z19 rfl ?_ ?_ | (show lτ _ _ = some _; exact rfl) | exact z20 rfl rfl | refine z20 rfl ?_ | refine z21 ?_ | refine z23 ?_ | exact z24 | refine z25 ?_ rfl rfl ?_ | refine z22 ?_ | refine z26 ?_ rfl rfl ?_ ?_ | refine z27 ?_ rfl rfl ?_ ?_ ?_ | exact True.intro | exact z4 rfl | exact z5 | exact z6 | exact z7 | exact z8 | exact z9 | exact z10 | refine z36 ?_ | refine z37 rfl ?_ | exact z38 | exact z39 | refine z40 (xs := ?_) (ys := ?_) ?_ ?_ | refine z41 (xs := ?_) (ys := ?_) ?_ ?_ ?_ ?_ | refine z42 (xs := ?_) ?_ | refine z43 (xs := ?_) ?_ | refine z44 (x := ?_) (xs := ?_) ?_ ?_ | refine RowsAre.rep (x := ?_) (n := ?_) ?_ | (with_reducible show RowIs _ _ _; first | exact Int_row _ | exact Str_row _) | (with_reducible show RowIs _ _ _; first | exact GTxnGuard_row _ | exact GTxnGuard_mk _ _ _ | exact GTxnSum_row _ | exact GTxnSum_mk _ _ _) | with_reducible exact rfl | (refine z11 ?_; omega) | (refine z12 ?_; omega) | simp only [List.length_append, List.length_map, List.length_cons, List.length_nil, List.length_set, List.length_replicate])); (all_goals (fail_if_success (with_reducible show FZ _ _))); (all_goals (fail_if_success (with_reducible show List.contains _ _ = true))); (all_goals (fail_if_success (with_reducible show False))); (all_goals (fail_if_success (with_reducible show VSub _ _ _ _ _ _))))))))
    | ((with_reducible show BackG _ _);(first
      | ((first
      | (guard_hyp t0;refine backR 2 (i + 1) (Ent.places [] _ (by simp only [go_sem,reduceCtorEq,Nat.reduceAdd,Nat.reduceSub,Nat.reduceMul,Nat.reduceLeDiff,Nat.reduceLT,Nat.reduceEqDiff];rfl) rfl rfl (Nat.zero_le _) ?_ ?_) ?_ ?_;rotate_left 3;(focus ((try dsimp only);omega));rotate_right 3)
      | (guard_hyp t1;refine backR 2 (i + 1) (Ent.places [] _ (by simp only [go_sem,reduceCtorEq,Nat.reduceAdd,Nat.reduceSub,Nat.reduceMul,Nat.reduceLeDiff,Nat.reduceLT,Nat.reduceEqDiff];rfl) rfl rfl (Nat.zero_le _) ?_ ?_) ?_ ?_;rotate_left 3;(focus ((try dsimp only);omega));rotate_right 3)
      | (guard_hyp t2;refine backR 2 (i + 1) (Ent.places [] _ (by simp only [go_sem,reduceCtorEq,Nat.reduceAdd,Nat.reduceSub,Nat.reduceMul,Nat.reduceLeDiff,Nat.reduceLT,Nat.reduceEqDiff];rfl) rfl rfl (Nat.zero_le _) ?_ ?_) ?_ ?_;rotate_left 3;(focus ((try dsimp only);omega));rotate_right 3)
      ); (focus (repeat' (first | simp only [z1, z2, z3, Nat.reduceEqDiff, Nat.reduceLT, not_false_eq_true] | exact z28 | refine z29 ?_ ?_ | exact z31 | refine z32 ?_ ?_ | refine z30 ?_ | exact z33 | refine z34 rfl ?_ ?_ | refine z35 ?_ | exact z13 | exact z14 | exact z15 | exact z16 | refine z17 ?_ | refine z18 rfl ?_ | refine z19 rfl ?_ ?_ | (show lτ _ _ = some _; exact rfl) | exact z20 rfl rfl | refine z20 rfl ?_ | refine z21 ?_ | refine z23 ?_ | exact z24 | refine z25 ?_ rfl rfl ?_ | refine z22 ?_ | refine z26 ?_ rfl rfl ?_ ?_ | refine z27 ?_ rfl rfl ?_ ?_ ?_ | exact True.intro | exact z4 rfl | exact z5 | exact z6 | exact z7 | exact z8 | exact z9 | exact z10 | refine z36 ?_ | refine z37 rfl ?_ | exact z38 | exact z39 | refine z40 (xs := ?_) (ys := ?_) ?_ ?_ | refine z41 (xs := ?_) (ys := ?_) ?_ ?_ ?_ ?_ | refine z42 (xs := ?_) ?_ | refine z43 (xs := ?_) ?_ | refine z44 (x := ?_) (xs := ?_) ?_ ?_ | refine RowsAre.rep (x := ?_) (n := ?_) ?_ | (with_reducible show RowIs _ _ _; first | exact Int_row _ | exact Str_row _) | (with_reducible show RowIs _ _ _; first | exact GTxnGuard_row _ | exact GTxnGuard_mk _ _ _ | exact GTxnSum_row _ | exact GTxnSum_mk _ _ _) | with_reducible exact rfl | (refine z11 ?_; omega) | (refine z12 ?_; omega) | simp only [List.length_append, List.length_map, List.length_cons, List.length_nil, List.length_set, List.length_replicate]))); (focus (repeat' (first | simp only [z1, z2, z3, Nat.reduceEqDiff, Nat.reduceLT, not_false_eq_true] | exact z28 | refine z29 ?_ ?_ | exact z31 | refine z32 ?_ ?_ | refine z30 ?_ | exact z33 | refine z34 rfl ?_ ?_ | refine z35 ?_ | exact z13 | exact z14 | exact z15 | exact z16 | refine z17 ?_ | refine z18 rfl ?_ | refine z19 rfl ?_ ?_ | (show lτ _ _ = some _; exact rfl) | exact z20 rfl rfl | refine z20 rfl ?_ | refine z21 ?_ | refine z23 ?_ | exact z24 | refine z25 ?_ rfl rfl ?_ | refine z22 ?_ | refine z26 ?_ rfl rfl ?_ ?_ | refine z27 ?_ rfl rfl ?_ ?_ ?_ | exact True.intro | exact z4 rfl | exact z5 | exact z6 | exact z7 | exact z8 | exact z9 | exact z10 | refine z36 ?_ | refine z37 rfl ?_ | exact z38 | exact z39 | refine z40 (xs := ?_) (ys := ?_) ?_ ?_ | refine z41 (xs := ?_) (ys := ?_) ?_ ?_ ?_ ?_ | refine z42 (xs := ?_) ?_ | refine z43 (xs := ?_) ?_ | refine z44 (x := ?_) (xs := ?_) ?_ ?_ | refine RowsAre.rep (x := ?_) (n := ?_) ?_ | (with_reducible show RowIs _ _ _; first | exact Int_row _ | exact Str_row _) | (with_reducible show RowIs _ _ _; first | exact GTxnGuard_row _ | exact GTxnGuard_mk _ _ _ | exact GTxnSum_row _ | exact GTxnSum_mk _ _ _) | with_reducible exact rfl | (refine z11 ?_; omega) | (refine z12 ?_; omega) | simp only [List.length_append, List.length_map, List.length_cons, List.length_nil, List.length_set, List.length_replicate]))))
      | ((first
      | (guard_hyp t0;refine backR 2 (i + 1) (Ent.places [] _ (by simp only [go_sem,reduceCtorEq,Nat.reduceAdd,Nat.reduceSub,Nat.reduceMul,Nat.reduceLeDiff,Nat.reduceLT,Nat.reduceEqDiff];rfl) rfl rfl (Nat.zero_le _) ?_ ?_) ?_ ?_)
      | (guard_hyp t1;refine backR 2 (i + 1) (Ent.places [] _ (by simp only [go_sem,reduceCtorEq,Nat.reduceAdd,Nat.reduceSub,Nat.reduceMul,Nat.reduceLeDiff,Nat.reduceLT,Nat.reduceEqDiff];rfl) rfl rfl (Nat.zero_le _) ?_ ?_) ?_ ?_)
      | (guard_hyp t2;refine backR 2 (i + 1) (Ent.places [] _ (by simp only [go_sem,reduceCtorEq,Nat.reduceAdd,Nat.reduceSub,Nat.reduceMul,Nat.reduceLeDiff,Nat.reduceLT,Nat.reduceEqDiff];rfl) rfl rfl (Nat.zero_le _) ?_ ?_) ?_ ?_)
      ); (focus (repeat' (first | simp only [z1, z2, z3, Nat.reduceEqDiff, Nat.reduceLT, not_false_eq_true] | exact z28 | refine z29 ?_ ?_ | exact z31 | refine z32 ?_ ?_ | refine z30 ?_ | exact z33 | refine z34 rfl ?_ ?_ | refine z35 ?_ | exact z13 | exact z14 | exact z15 | exact z16 | refine z17 ?_ | refine z18 rfl ?_ | refine z19 rfl ?_ ?_ | (show lτ _ _ = some _; exact rfl) | exact z20 rfl rfl | refine z20 rfl ?_ | refine z21 ?_ | refine z23 ?_ | exact z24 | refine z25 ?_ rfl rfl ?_ | refine z22 ?_ | refine z26 ?_ rfl rfl ?_ ?_ | refine z27 ?_ rfl rfl ?_ ?_ ?_ | exact True.intro | exact z4 rfl | exact z5 | exact z6 | exact z7 | exact z8 | exact z9 | exact z10 | refine z36 ?_ | refine z37 rfl ?_ | exact z38 | exact z39 | refine z40 (xs := ?_) (ys := ?_) ?_ ?_ | refine z41 (xs := ?_) (ys := ?_) ?_ ?_ ?_ ?_ | refine z42 (xs := ?_) ?_ | refine z43 (xs := ?_) ?_ | refine z44 (x := ?_) (xs := ?_) ?_ ?_ | refine RowsAre.rep (x := ?_) (n := ?_) ?_ | (with_reducible show RowIs _ _ _; first | exact Int_row _ | exact Str_row _) | (with_reducible show RowIs _ _ _; first | exact GTxnGuard_row _ | exact GTxnGuard_mk _ _ _ | exact GTxnSum_row _ | exact GTxnSum_mk _ _ _) | with_reducible exact rfl | (refine z11 ?_; omega) | (refine z12 ?_; omega) | simp only [List.length_append, List.length_map, List.length_cons, List.length_nil, List.length_set, List.length_replicate]))); (focus (repeat' (first | simp only [z1, z2, z3, Nat.reduceEqDiff, Nat.reduceLT, not_false_eq_true] | exact z28 | refine z29 ?_ ?_ | exact z31 | refine z32 ?_ ?_ | refine z30 ?_ | exact z33 | refine z34 rfl ?_ ?_ | refine z35 ?_ | exact z13 | exact z14 | exact z15 | exact z16 | refine z17 ?_ | refine z18 rfl ?_ | refine z19 rfl ?_ ?_ | (show lτ _ _ = some _; exact rfl) | exact z20 rfl rfl | refine z20 rfl ?_ | refine z21 ?_ | refine z23 ?_ | exact z24 | refine z25 ?_ rfl rfl ?_ | refine z22 ?_ | refine z26 ?_ rfl rfl ?_ ?_ | refine z27 ?_ rfl rfl ?_ ?_ ?_ | exact True.intro | exact z4 rfl | exact z5 | exact z6 | exact z7 | exact z8 | exact z9 | exact z10 | refine z36 ?_ | refine z37 rfl ?_ | exact z38 | exact z39 | refine z40 (xs := ?_) (ys := ?_) ?_ ?_ | refine z41 (xs := ?_) (ys := ?_) ?_ ?_ ?_ ?_ | refine z42 (xs := ?_) ?_ | refine z43 (xs := ?_) ?_ | refine z44 (x := ?_) (xs := ?_) ?_ ?_ | refine RowsAre.rep (x := ?_) (n := ?_) ?_ | (with_reducible show RowIs _ _ _; first | exact Int_row _ | exact Str_row _) | (with_reducible show RowIs _ _ _; first | exact GTxnGuard_row _ | exact GTxnGuard_mk _ _ _ | exact GTxnSum_row _ | exact GTxnSum_mk _ _ _) | with_reducible exact rfl | (refine z11 ?_; omega) | (refine z12 ?_; omega) | simp only [List.length_append, List.length_map, List.length_cons, List.length_nil, List.length_set, List.length_replicate]))); rotate_left 1; (focus ((try dsimp only); first | omega | (simp only [List.length_set, List.length_append, List.length_cons, List.length_nil]; omega))))))
    | ((with_reducible show EndK _ _ _ _ _ _ _);(first
      | ((first
      | (guard_hyp t0;refine EndK.eqv (vs := ?_) (f := fun x : Bool => .lit (.bool x)) ?_ (by first|exact .inr rfl|exact .inl rfl) ?_ ?_ ?_;rotate_left 2)
      | (guard_hyp t1;refine EndK.eqv (vs := ?_) (f := fun x : Bool => .lit (.bool x)) ?_ (by first|exact .inr rfl|exact .inl rfl) ?_ ?_ ?_;rotate_left 2)
      | (guard_hyp t2;refine EndK.eqv (vs := ?_) (f := fun x : Bool => .lit (.bool x)) ?_ (by first|exact .inr rfl|exact .inl rfl) ?_ ?_ ?_;rotate_left 2)
      ); (focus (simp only [go_sem, reduceCtorEq, Nat.reduceAdd, Nat.reduceSub, Nat.reduceMul, Nat.reduceLeDiff, Nat.reduceLT, Nat.reduceEqDiff]; exact rfl)); (focus (repeat' (first | simp only [z1, z2, z3, Nat.reduceEqDiff, Nat.reduceLT, not_false_eq_true] | exact z28 | refine z29 ?_ ?_ | exact z31 | refine z32 ?_ ?_ | refine z30 ?_ | exact z33 | refine z34 rfl ?_ ?_ | refine z35 ?_ | exact z13 | exact z14 | exact z15 | exact z16 | refine z17 ?_ | refine z18 rfl ?_ | refine z19 rfl ?_ ?_ | (show lτ _ _ = some _; exact rfl) | exact z20 rfl rfl | refine z20 rfl ?_ | refine z21 ?_ | refine z23 ?_ | exact z24 | refine z25 ?_ rfl rfl ?_ | refine z22 ?_ | refine z26 ?_ rfl rfl ?_ ?_ | refine z27 ?_ rfl rfl ?_ ?_ ?_ | exact True.intro | exact z4 rfl | exact z5 | exact z6 | exact z7 | exact z8 | exact z9 | exact z10 | refine z36 ?_ | refine z37 rfl ?_ | exact z38 | exact z39 | refine z40 (xs := ?_) (ys := ?_) ?_ ?_ | refine z41 (xs := ?_) (ys := ?_) ?_ ?_ ?_ ?_ | refine z42 (xs := ?_) ?_ | refine z43 (xs := ?_) ?_ | refine z44 (x := ?_) (xs := ?_) ?_ ?_ | refine RowsAre.rep (x := ?_) (n := ?_) ?_ | (with_reducible show RowIs _ _ _; first | exact Int_row _ | exact Str_row _) | (with_reducible show RowIs _ _ _; first | exact GTxnGuard_row _ | exact GTxnGuard_mk _ _ _ | exact GTxnSum_row _ | exact GTxnSum_mk _ _ _) | with_reducible exact rfl | (refine z11 ?_; omega) | (refine z12 ?_; omega) | simp only [List.length_append, List.length_map, List.length_cons, List.length_nil, List.length_set, List.length_replicate]))))))
    | (refine h1 _ _ ?_;clear h1 K1)
    | (with_reducible refine GTxnGuard_ex _ _ _ ?_)
    | (with_reducible refine GTxnSum_ex _ _ _ ?_)
    | (with_reducible refine GInt_ex _ ?_)
    | refine And.intro ?_ ?_
    | ((first|with_reducible show (_ : Int) ≤ _|with_reducible show (_ : Int) < _|with_reducible show (_ : Int) = _|with_reducible show (_ : Nat) ≤ _|with_reducible show (_ : Nat) < _|with_reducible show (_ : Nat) = _|with_reducible show ¬ _|with_reducible show _ ≠ _|with_reducible show False);omega)
    | (intro h;(try simp only [decide_eq_true_eq,decide_eq_false_iff_not,Int.not_lt,Int.not_le,beq_iff_eq,bne_iff_ne,beq_eq_false_iff_ne,bne_eq_false_iff_eq,ne_eq,Bool.not_eq_true',Bool.not_eq_false',Decidable.not_not] at h);(try contradiction)))
  all_goals (try clear h1); all_goals (try clear K1); all_goals (try clear hK); all_goals (try clear K); all_goals (try dsimp only); all_goals (try simp only [Bool.not_eq_false', Bool.not_eq_true', decide_eq_true_eq, decide_eq_false_iff_not] at *); all_goals (try simp only [GTxnGuard_eta, GTxnSum_eta] at *)
  all_goals first
    | omega
    | (simp only [List.length_cons,List.length_nil,Nat.reduceAdd];done)
    | (simp only [List.length_set,List.length_append,List.length_cons,List.length_nil,List.length_map,List.length_take,List.length_drop];omega)
    | (obtain ⟨x,_,rfl⟩ := List.mem_map.1 (by assumption);rfl)
    | (obtain ⟨x,_,rfl⟩ := List.mem_map.1 (List.mem_of_mem_take (by assumption));rfl)
    | (obtain ⟨x,_,rfl⟩ := List.mem_map.1 (List.mem_of_mem_drop (List.mem_of_mem_take (by assumption)));rfl)
    | (simp (disch := omega) only [wr_id];omega)
    | (guard_hyp t0;first|(rw [im_rising_TxnGuard_f_im_TxnOk_4_K1,im_rising_TxnGuard_f_im_TxnOk_4_L1] at hM;rw [im_rising_TxnGuard_f_im_TxnOk_4_K1];all_goals grind)|(rw [im_rising_TxnGuard_f_im_TxnOk_4_K1,im_rising_TxnGuard_f_im_TxnOk_4_L1] at hM;grind)|(rw [im_rising_TxnGuard_f_im_TxnOk_4];all_goals first|grind|(repeat' split) <;> first|rfl|grind))
    | (guard_hyp t1;first|(rw [im_rising_TxnSum_f_im_TxnOk_5_K1,im_rising_TxnSum_f_im_TxnOk_5_L1] at hM;rw [im_rising_TxnSum_f_im_TxnOk_5_K1];all_goals grind)|(rw [im_rising_TxnSum_f_im_TxnOk_5_K1,im_rising_TxnSum_f_im_TxnOk_5_L1] at hM;grind)|(rw [im_rising_TxnSum_f_im_TxnOk_5];all_goals first|grind|(repeat' split) <;> first|rfl|grind))
    | (guard_hyp t2;first|(rw [im_rising_int_f_im_own_K1,im_rising_int_f_im_own_L1] at hM;rw [im_rising_int_f_im_own_K1];all_goals grind)|(rw [im_rising_int_f_im_own_K1,im_rising_int_f_im_own_L1] at hM;grind)|(rw [im_rising_int_f_im_own];all_goals first|grind|(repeat' split) <;> first|rfl|grind))
    | grind)
theorem im_rising_TxnGuard_f_im_TxnOk_4_c : Sim_rising_TxnGuard_f_im_TxnOk_4_c := layU51.1
theorem im_rising_TxnSum_f_im_TxnOk_5_c : Sim_rising_TxnSum_f_im_TxnOk_5_c := layU51.2.1
theorem im_rising_int_f_im_own_c : Sim_rising_int_f_im_own_c := layU51.2.2
end Go.Proofs.Ytghkelfpomfadaa
end
section
namespace Go.Proofs.Ytghkelfpomfadaa
open Go.Ae
open Go.Ae renaming getR_eq → z1, getR_ne → z2, getR_nil → z3, lF_mk → z4, cont1 → z5, cont2a → z6, cont2b → z7, cont3a → z8, cont3b → z9, cont3c → z10, wr_up → z11, wr_dn → z12
open Go.Ae.VSub renaming any' → z13, same → z14, nilRd → z15, mtRd → z16, lit → z17, ptr' → z18, sl' → z19, slNil → z20, agg' → z21, tup' → z22, fn' → z23, rpSame → z24, rpF → z25, frz → z26, frzC → z27
open Go.Ae.LSub renaming nil' → z28, cons' → z29, mkR' → z30
open Go.Ae.SSub renaming nil' → z31, cons' → z32
open Go.Ae.HTell renaming nil' → z33, some' → z34, freshRows → z35
open Go.Ae.BSub renaming cells' → z36, own → z37
open Go.Ae.RowsAre renaming map → z38, nil → z39, app → z40, spl → z41, take → z42, drop → z43, cons → z44
open Go.Ae.CallA renaming gv0 → z45, lend → z46
set_option linter.unusedSimpArgs false
set_option linter.unusedVariables false
attribute [local irreducible] wr bitsOf VSub LSub SSub HTell BSub RowIs RowsAre Ent lF mkR
def slices_IndexFunc_TxnGuard_f_im_TxnOk_1_L1 (s : List GTxnGuard) (ix1 : Nat) : Fl (Int) (Unit) :=
  if h0 : ((ix1 : Int) < (s.length : Int)) then
      let i := (ix1 : Int)
      if ((im_TxnOk_1 (s.getD i.toNat default)) = true) then
        .ret i
      else 
        slices_IndexFunc_TxnGuard_f_im_TxnOk_1_L1 s (ix1 + 1)
  else .go ()
termination_by ((s.length : Int) - (ix1 : Int)).toNat
decreasing_by all_goals omega
def slices_IndexFunc_TxnGuard_f_im_TxnOk_1_K1 (s : List GTxnGuard) (ix1 : Nat) : Int :=
  match slices_IndexFunc_TxnGuard_f_im_TxnOk_1_L1 s ix1 with
  | .ret rr => rr
  | .go q =>
    (-1)
def slices_IndexFunc_TxnGuard_f_im_TxnOk_1 (s : List GTxnGuard) : Int :=
  let ix1 : Nat := 0
  slices_IndexFunc_TxnGuard_f_im_TxnOk_1_K1 s ix1
def slices_ContainsFunc_TxnGuard_f_im_TxnOk_1 (s : List GTxnGuard) : Bool :=
  (decide ((slices_IndexFunc_TxnGuard_f_im_TxnOk_1 s) ≥ 0))
def slices_IndexFunc_TxnSum_f_im_TxnOk_2_L1 (s : List GTxnSum) (ix1 : Nat) : Fl (Int) (Unit) :=
  if h0 : ((ix1 : Int) < (s.length : Int)) then
      let i := (ix1 : Int)
      if ((im_TxnOk_2 (s.getD i.toNat default)) = true) then
        .ret i
      else 
        slices_IndexFunc_TxnSum_f_im_TxnOk_2_L1 s (ix1 + 1)
  else .go ()
termination_by ((s.length : Int) - (ix1 : Int)).toNat
decreasing_by all_goals omega
def slices_IndexFunc_TxnSum_f_im_TxnOk_2_K1 (s : List GTxnSum) (ix1 : Nat) : Int :=
  match slices_IndexFunc_TxnSum_f_im_TxnOk_2_L1 s ix1 with
  | .ret rr => rr
  | .go q =>
    (-1)
def slices_IndexFunc_TxnSum_f_im_TxnOk_2 (s : List GTxnSum) : Int :=
  let ix1 : Nat := 0
  slices_IndexFunc_TxnSum_f_im_TxnOk_2_K1 s ix1
def slices_ContainsFunc_TxnSum_f_im_TxnOk_2 (s : List GTxnSum) : Bool :=
  (decide ((slices_IndexFunc_TxnSum_f_im_TxnOk_2 s) ≥ 0))
def slices_IndexFunc_int_f_im_TxnOk_3_L1 (s : List Int) (ix1 : Nat) : Fl (Int) (Unit) :=
  if h0 : ((ix1 : Int) < (s.length : Int)) then
      let i := (ix1 : Int)
      if ((im_TxnOk_3 (s.getD i.toNat default)) = true) then
        .ret i
      else 
        slices_IndexFunc_int_f_im_TxnOk_3_L1 s (ix1 + 1)
  else .go ()
termination_by ((s.length : Int) - (ix1 : Int)).toNat
decreasing_by all_goals omega
def slices_IndexFunc_int_f_im_TxnOk_3_K1 (s : List Int) (ix1 : Nat) : Int :=
  match slices_IndexFunc_int_f_im_TxnOk_3_L1 s ix1 with
  | .ret rr => rr
  | .go q =>
    (-1)
def slices_IndexFunc_int_f_im_TxnOk_3 (s : List Int) : Int :=
  let ix1 : Nat := 0
  slices_IndexFunc_int_f_im_TxnOk_3_K1 s ix1
def slices_ContainsFunc_int_f_im_TxnOk_3 (s : List Int) : Bool :=
  (decide ((slices_IndexFunc_int_f_im_TxnOk_3 s) ≥ 0))
def Sslices_IndexFunc_TxnGuard_f_im_TxnOk_1_c : Prop := ∀ (s : List GTxnGuard) (hp0 : s.length ≤ 2147483648), Gives Try.prog 56 [.r (.rd 3 encGTxnGuard s), .fn 34 []] (.lit (.int .i64 (slices_IndexFunc_TxnGuard_f_im_TxnOk_1 s)))
def Sslices_ContainsFunc_TxnGuard_f_im_TxnOk_1_c : Prop := ∀ (s : List GTxnGuard) (hp0 : s.length ≤ 2147483648), Gives Try.prog 37 [.r (.rd 3 encGTxnGuard s), .fn 34 []] (.lit (.bool (slices_ContainsFunc_TxnGuard_f_im_TxnOk_1 s)))
def Sslices_IndexFunc_TxnSum_f_im_TxnOk_2_c : Prop := ∀ (s : List GTxnSum) (hp0 : s.length ≤ 2147483648), Gives Try.prog 57 [.r (.rd 3 encGTxnSum s), .fn 36 []] (.lit (.int .i64 (slices_IndexFunc_TxnSum_f_im_TxnOk_2 s)))
def Sslices_ContainsFunc_TxnSum_f_im_TxnOk_2_c : Prop := ∀ (s : List GTxnSum) (hp0 : s.length ≤ 2147483648), Gives Try.prog 38 [.r (.rd 3 encGTxnSum s), .fn 36 []] (.lit (.bool (slices_ContainsFunc_TxnSum_f_im_TxnOk_2 s)))
def Sslices_IndexFunc_int_f_im_TxnOk_3_c : Prop := ∀ (s : List Int) (hp0 : s.length ≤ 2147483648), Gives Try.prog 58 [.r (.rd 1 encInt s), .fn 40 []] (.lit (.int .i64 (slices_IndexFunc_int_f_im_TxnOk_3 s)))
def Sslices_ContainsFunc_int_f_im_TxnOk_3_c : Prop := ∀ (s : List Int) (hp0 : s.length ≤ 2147483648), Gives Try.prog 39 [.r (.rd 1 encInt s), .fn 40 []] (.lit (.bool (slices_ContainsFunc_int_f_im_TxnOk_3 s)))
set_option maxRecDepth 10000 in
set_option maxHeartbeats 12000000 in
theorem layU61 : (Sslices_IndexFunc_TxnGuard_f_im_TxnOk_1_c) ∧ (Sslices_IndexFunc_TxnGuard_f_im_TxnOk_1_c → Sslices_ContainsFunc_TxnGuard_f_im_TxnOk_1_c) ∧ (Sslices_IndexFunc_TxnSum_f_im_TxnOk_2_c) ∧ (Sslices_IndexFunc_TxnSum_f_im_TxnOk_2_c → Sslices_ContainsFunc_TxnSum_f_im_TxnOk_2_c) ∧ (Sslices_IndexFunc_int_f_im_TxnOk_3_c) ∧ (Sslices_IndexFunc_int_f_im_TxnOk_3_c → Sslices_ContainsFunc_int_f_im_TxnOk_3_c) := by
  refine ⟨fun s hp0 => have t0 := tg 0; Does.goR Try.func56 Try.ntmps56 Try.results56 rfl (Nat.zero_le _) rfl ?_,
    fun slices_IndexFunc_TxnGuard_f_im_TxnOk_1_c s hp0 => have t1 := tg 1; Does.goR Try.func37 Try.ntmps37 Try.results37 rfl (Nat.zero_le _) rfl ?_,
    fun s hp0 => have t2 := tg 2; Does.goR Try.func57 Try.ntmps57 Try.results57 rfl (Nat.zero_le _) rfl ?_,
    fun slices_IndexFunc_TxnSum_f_im_TxnOk_2_c s hp0 => have t3 := tg 3; Does.goR Try.func38 Try.ntmps38 Try.results38 rfl (Nat.zero_le _) rfl ?_,
    fun s hp0 => have t4 := tg 4; Does.goR Try.func58 Try.ntmps58 Try.results58 rfl (Nat.zero_le _) rfl ?_,
    fun slices_IndexFunc_int_f_im_TxnOk_3_c s hp0 => have t5 := tg 5; Does.goR Try.func39 Try.ntmps39 Try.results39 rfl (Nat.zero_le _) rfl ?_⟩
  all_goals (
  simp only [argR, Nat.reduceAdd]
  repeat' (first
    | ((with_reducible show Aft _ _ _ _);(first|refine Aft.t ?_|refine Aft.q ?_|refine Aft.b ?_|refine Aft.e ?_|refine Aft.tr ?_|refine Aft.br ?_|refine Aft.qr ?_|refine Aft.tx ?_|refine Aft.bx ?_|refine Aft.by' rfl ?_|refine Aft.qx ?_))
    | ((with_reducible show RegS _ _ _ _ _ _);(first
      | (refine RegS.nil (hK _ _ ?_);clear hK K)
      | ((first|refine RegS.stepN fun K1 h1 => ?_|refine RegS.step fun K1 h1 => ?_);simp only [go_sem,reduceCtorEq,Nat.reduceAdd,Nat.reduceSub,Nat.reduceMul,Nat.reduceLeDiff,Nat.reduceLT,Nat.reduceEqDiff])))
    | ((with_reducible show QuietS _ _ _ _ _ _);(first
      | (refine QuietS.nil (hK _ _ ?_);clear hK K)
      | ((first|refine QuietS.stepN fun K1 h1 => ?_|refine QuietS.step fun K1 h1 => ?_);simp only [go_sem,reduceCtorEq,Nat.reduceAdd,Nat.reduceSub,Nat.reduceMul,Nat.reduceLeDiff,Nat.reduceLT,Nat.reduceEqDiff])))
    | ((with_reducible show Tri _ _ _ _ _ _);(first
      | (refine Tri.regSeq fun K hK => RegS.run ?_)
      | (refine Tri.regA fun K hK => ?_)
      | (refine Tri.cond (b := ?_) ?_ ?_ ?_;rotate_left 1;focus (simp only [ev,z1,z2,Nat.reduceEqDiff,Nat.reduceLT,not_false_eq_true];exact rfl))
      | refine Tri.skipA ?_
      | refine Tri.exitA ?_
      | refine Tri.retA ?_
      | refine Tri.block ?_
      | ((with_reducible show Tri _ _ (Code.loop _) _ _ _);(first
      | (guard_hyp t0;refine Tri.loopR (ι := Nat) 2 rfl (fun j => mkR 19 [(0,.r (.rd 3 encGTxnGuard s)),(1,.fn 34 []),(6,.r (.rd 3 encGTxnGuard s)),(7,.lit (.int .i64 (s.length : Int))),(8,.lit (.int .i64 (j : Int)))]) (fun j => []) (fun j => slices_IndexFunc_TxnGuard_f_im_TxnOk_1_K1 s j = slices_IndexFunc_TxnGuard_f_im_TxnOk_1 s ∧ (j : Int) ≤ (s.length : Int)) (fun j => ((s.length : Int) - (j : Int)).toNat) 0 (Ent.places [] _ (by simp only [go_sem,reduceCtorEq,Nat.reduceAdd,Nat.reduceSub,Nat.reduceMul,Nat.reduceLeDiff,Nat.reduceLT,Nat.reduceEqDiff];rfl) rfl rfl (Nat.zero_le _) ?_ ?_) ?_ ?_;rotate_left 3;(focus (rintro ix1 ⟨hM,hI⟩;(try dsimp only at hM hI)));rotate_right 3)
      | (guard_hyp t2;refine Tri.loopR (ι := Nat) 2 rfl (fun j => mkR 19 [(0,.r (.rd 3 encGTxnSum s)),(1,.fn 36 []),(6,.r (.rd 3 encGTxnSum s)),(7,.lit (.int .i64 (s.length : Int))),(8,.lit (.int .i64 (j : Int)))]) (fun j => []) (fun j => slices_IndexFunc_TxnSum_f_im_TxnOk_2_K1 s j = slices_IndexFunc_TxnSum_f_im_TxnOk_2 s ∧ (j : Int) ≤ (s.length : Int)) (fun j => ((s.length : Int) - (j : Int)).toNat) 0 (Ent.places [] _ (by simp only [go_sem,reduceCtorEq,Nat.reduceAdd,Nat.reduceSub,Nat.reduceMul,Nat.reduceLeDiff,Nat.reduceLT,Nat.reduceEqDiff];rfl) rfl rfl (Nat.zero_le _) ?_ ?_) ?_ ?_;rotate_left 3;(focus (rintro ix1 ⟨hM,hI⟩;(try dsimp only at hM hI)));rotate_right 3)
      | (guard_hyp t4;refine Tri.loopR (ι := Nat) 2 rfl (fun j => mkR 19 [(0,.r (.rd 1 encInt s)),(1,.fn 40 []),(6,.r (.rd 1 encInt s)),(7,.lit (.int .i64 (s.length : Int))),(8,.lit (.int .i64 (j : Int)))]) (fun j => []) (fun j => slices_IndexFunc_int_f_im_TxnOk_3_K1 s j = slices_IndexFunc_int_f_im_TxnOk_3 s ∧ (j : Int) ≤ (s.length : Int)) (fun j => ((s.length : Int) - (j : Int)).toNat) 0 (Ent.places [] _ (by simp only [go_sem,reduceCtorEq,Nat.reduceAdd,Nat.reduceSub,Nat.reduceMul,Nat.reduceLeDiff,Nat.reduceLT,Nat.reduceEqDiff];rfl) rfl rfl (Nat.zero_le _) ?_ ?_) ?_ ?_;rotate_left 3;(focus (rintro ix1 ⟨hM,hI⟩;(try dsimp only at hM hI)));rotate_right 3)
      ); (focus (repeat' (first | simp only [z1, z2, z3, Nat.reduceEqDiff, Nat.reduceLT, not_false_eq_true] | exact z28 | refine z29 ?_ ?_ | exact z31 | refine z32 ?_ ?_ | refine z30 ?_ | exact z33 | refine z34 rfl ?_ ?_ | refine z35 ?_ | exact z13 | exact z14 | exact z15 | exact z16 | refine z17 ?_ | refine z18 rfl ?_ | refine z19 rfl ?_ ?_ | (show lτ _ _ = some _; exact rfl) | exact z20 rfl rfl | refine z20 rfl ?_ | refine z21 ?_ | refine z23 ?_ | exact z24 | refine z25 ?_ rfl rfl ?_ | refine z22 ?_ | refine z26 ?_ rfl rfl ?_ ?_ | refine z27 ?_ rfl rfl ?_ ?_ ?_ | exact True.intro | exact z4 rfl | exact z5 | exact z6 | exact z7 | exact z8 | exact z9 | exact z10 | refine z36 ?_ | refine z37 rfl ?_ | exact z38 | exact z39 | refine z40 (xs := ?_) (ys := ?_) ?_ ?_ | refine z41 (xs := ?_) (ys := ?_) ?_ ?_ ?_ ?_ | refine z42 (xs := ?_) ?_ | refine z43 (xs := ?_) ?_ | refine z44 (x := ?_) (xs := ?_) ?_ ?_ | refine RowsAre.rep (x := ?_) (n := ?_) ?_ | (with_reducible show RowIs _ _ _; first | exact Int_row _ | exact Str_row _) | (with_reducible show RowIs _ _ _; first | exact GTxnGuard_row _ | exact GTxnGuard_mk _ _ _ | exact GTxnSum_row _ | exact GTxnSum_mk _ _ _) | with_reducible exact rfl | (refine z11 ?_; omega) | (refine z12 ?_; omega) | simp only [List.length_append, List.length_map, List.length_cons, List.length_nil, List.length_set, List.length_replicate]))); (focus (repeat' (first | simp only [z1, z2, z3, Nat.reduceEqDiff, Nat.reduceLT, not_false_eq_true] | exact z28 | refine z29 ?_ ?_ | exact z31 | refine z32 ?_ ?_ | refine z30 ?_ | exact z33 | refine z34 rfl ?_ ?_ | refine z35 ?_ | exact z13 | exact z14 | exact z15 | exact z16 | refine z17 ?_ | refine z18 rfl ?_ | refine z19 rfl ?_ ?_ | (show lτ _ _ = some _; exact rfl) | exact z20 rfl rfl | refine z20 rfl ?_ | refine z21 ?_ | refine z23 ?_ | exact z24 | refine z25 ?_ rfl rfl ?_ | refine z22 ?_ | refine z26 ?_ rfl rfl ?_ ?_ | refine z27 ?_ rfl rfl ?_ ?_ ?_ | exact True.intro | exact z4 rfl | exact z5 | exact z6 | exact z7 | exact z8 | exact z9 | exact z10 | refine z36 ?_ | refine z37 rfl ?_ | exact z38 | exact z39 | refine z40 (xs := ?_) (ys := ?_) ?_ ?_ | refine z41 (xs := ?_) (ys := ?_) ?_ ?_ ?_ ?_ | refine z42 (xs := ?_) ?_ | refine z43 (xs := ?_) ?_ | refine z44 (x := ?_) (xs := ?_) ?_ ?_ | refine RowsAre.rep (x := ?_) (n := ?_) ?_ | (with_reducible show RowIs _ _ _; first | exact Int_row _ | exact Str_row _) | (with_reducible show RowIs _ _ _; first | exact GTxnGuard_row _ | exact GTxnGuard_mk _ _ _ | exact GTxnSum_row _ | exact GTxnSum_mk _ _ _) | with_reducible exact rfl | (refine z11 ?_; omega) | (refine z12 ?_; omega) | simp only [List.length_append, List.length_map, List.length_cons, List.length_nil, List.length_set, List.length_replicate]))); rotate_left 1)
      | refine Tri.seq ?_))
    | ((with_reducible show CallA _ _ _ _ _);(first
      | ((first
      | (refine z45 (im_TxnOk_1_c ⟨?_,?_,?_⟩) ?_ ?_;rotate_left 3)
      | (refine z45 (slices_IndexFunc_TxnGuard_f_im_TxnOk_1_c ?_ ?_) ?_ ?_;rotate_left 2)
      | (refine z45 (im_TxnOk_2_c ⟨?_,?_,?_⟩) ?_ ?_;rotate_left 3)
      | (refine z45 (slices_IndexFunc_TxnSum_f_im_TxnOk_2_c ?_ ?_) ?_ ?_;rotate_left 2)
      | (refine z45 (im_TxnOk_3_c ?_) ?_ ?_;rotate_left 1)
      | (refine z45 (slices_IndexFunc_int_f_im_TxnOk_3_c ?_ ?_) ?_ ?_;rotate_left 2)
      ); (focus ((repeat' (first | simp only [z1, z2, z3, Nat.reduceEqDiff, Nat.reduceLT, not_false_eq_true] | exact z28 | refine z29 ?_ ?_ | exact z31 | refine z32 ?_ ?_ | refine z30 ?_ | exact z33 | refine z34 rfl ?_ ?_ | refine z35 ?_ | exact z13 | exact z14 | exact z15 | exact z16 | refine z17 ?_ | refine z18 rfl ?_ | refine z19 rfl ?_ ?_ | (show lτ _ _ = some _; exact rfl) | exact z20 rfl rfl | refine z20 rfl ?_ | refine z21 ?_ | refine z23 ?_ | exact z24 | refine z25 ?_ rfl rfl ?_ | refine z22 ?_ | refine z26 ?_ rfl rfl ?_ ?_ | refine z27 ?_ rfl rfl ?_ ?_ ?_ | exact True.intro | exact z4 rfl | exact z5 | exact z6 | exact z7 | exact z8 | exact z9 | exact z10 | refine z36 ?_ | refine z37 rfl ?_ | exact z38 | exact z39 | refine z40 (xs := ?_) (ys := ?_) ?_ ?_ | refine z41 (xs := ?_) (ys := ?_) ?_ ?_ ?_ ?_ | refine z42 (xs := ?_) ?_ | refine z43 (xs := ?_) ?_ | refine z44 (x := ?_) (xs := ?_) ?_ ?_ | refine RowsAre.rep (x := ?_) (n := ?_) ?_ | (with_reducible show RowIs _ _ _; first | exact Int_row _ | exact Str_row _) | (with_reducible show RowIs _ _ _; first | exact GTxnGuard_row _ | exact GTxnGuard_mk _ _ _ | exact GTxnSum_row _ | exact GTxnSum_mk _ _ _) | with_reducible exact rfl | (refine z11 ?_; omega) | (refine z12 ?_; omega) | simp only [List.length_append, List.length_map, List.length_cons, List.length_nil, List.length_set, List.length_replicate])); (all_goals (fail_if_success (with_reducible show FZ _ _))); (all_goals (fail_if_success (with_reducible show List.contains _ _ = true))); (all_goals (fail_if_success (with_reducible show False))); (all_goals (fail_if_success (with_reducible show VSub _ _ _ _ _ _))))))
      | ((first
      | (refine z46 (im_TxnOk_1_c ⟨?_,?_,?_⟩) rfl ?_ ?_;rotate_left 3)
      | (refine z46 (slices_IndexFunc_TxnGuard_f_im_TxnOk_1_c ?_ ?_) rfl ?_ ?_;rotate_left 2)
      | (refine z46 (im_TxnOk_2_c ⟨?_,?_,?_⟩) rfl ?_ ?_;rotate_left 3)
      | (refine z46 (slices_IndexFunc_TxnSum_f_im_TxnOk_2_c ?_ ?_) rfl ?_ ?_;rotate_left 2)
      | (refine z46 (im_TxnOk_3_c ?_) rfl ?_ ?_;rotate_left 1)
      | (refine z46 (slices_IndexFunc_int_f_im_TxnOk_3_c ?_ ?_) rfl ?_ ?_;rotate_left 2)
      ); (focus ((repeat' (first | simp only [z1, z2, z3, Nat.reduceEqDiff, Nat.reduceLT, not_false_eq_true] | exact z28 | refine z29 ?_ ?_ | exact z31 | refine z32 ?_ ?_ | refine z30 ?_ | exact z33 | refine z34 rfl ?_ ?_ | refine z35 ?_ | exact z13 | exact z14 | exact z15 | exact z16 | refine z17 ?_ | refine z18 rfl ?_ | refine z19 rfl ?_ ?_ | (show lτ _ _ = some _; exact rfl) | exact z20 rfl rfl | refine z20 rfl ?_ | refine z21 ?_ | refine z23 ?_ | exact z24 | refine z25 ?_ rfl rfl ?_ | refine z22 ?_ | refine z26 ?_ rfl rfl ?_ ?_ | refine z27 ?_ rfl rfl ?_ ?_ ?_ | exact True.intro | exact z4 rfl | exact z5 | exact z6 | exact z7 | exact z8 | exact z9 | exact z10 | refine z36 ?_ | refine z37 rfl ?_ | exact z38 | exact z39 | refine z40 (xs := ?_) (ys := ?_) ?_ ?_ | refine z41 (xs := ?_) (ys := ?_) ?_ ?_ ?_ ?_ | refine z42 (xs := ?_) ?_ | refine z43 (xs := ?_) ?_ | refine z44 (x := ?_) (xs := ?_) ?_ ?_ | refine RowsAre.rep (x := ?_) (n := ?_) ?_ | (with_reducible show RowIs _ _ _; first | exact Int_row _ | exact Str_row _) | (with_reducible show RowIs _ _ _; first | exact GTxnGuard_row _ | exact GTxnGuard_mk _ _ _ | exact GTxnSum_row _ | exact GTxnSum_mk _ _ _) | with_reducible exact rfl | (refine z11 ?_; omega) | (refine z12 ?_; omega) | simp only [List.length_append, List.length_map, List.length_cons, List.length_nil, List.length_set, List.length_replicate])); (all_goals (fail_if_success (with_reducible show FZ _ _))); (all_goals (fail_if_success (with_reducible show List.contains _ _ = true))); (all_goals (fail_if_success (with_reducible show False))); (all_goals (fail_if_success (with_reducible show VSub _ _ _ _ _ _))))))))
    | ((with_reducible show CallL _ _ _ _);(first
      | ((first
      | (refine CallL.gv0 (im_TxnOk_1_c ⟨?_,?_,?_⟩) ?_ ?_;rotate_left 3)
      | (refine CallL.gv0 (slices_IndexFunc_TxnGuard_f_im_TxnOk_1_c ?_ ?_) ?_ ?_;rotate_left 2)
      | (refine CallL.gv0 (im_TxnOk_2_c ⟨?_,?_,?_⟩) ?_ ?_;rotate_left 3)
      | (refine CallL.gv0 (slices_IndexFunc_TxnSum_f_im_TxnOk_2_c ?_ ?_) ?_ ?_;rotate_left 2)
      | (refine CallL.gv0 (im_TxnOk_3_c ?_) ?_ ?_;rotate_left 1)
      | (refine CallL.gv0 (slices_IndexFunc_int_f_im_TxnOk_3_c ?_ ?_) ?_ ?_;rotate_left 2)
      ); (focus ((repeat' (first | simp only [z1, z2, z3, Nat.reduceEqDiff, Nat.reduceLT, not_false_eq_true] | exact z28 | refine z29 ?_ ?_ | exact z31 | refine z32 ?_ ?_ | refine z30 ?_ | exact z33 | refine z34 rfl ?_ ?_ | refine z35 ?_ | exact z13 | exact z14 | exact z15 | exact z16 | refine z17 ?_ | refine z18 rfl ?_ | refine z19 rfl ?_ ?_ | (show lτ _ _ = some _; exact rfl) | exact z20 rfl rfl | refine z20 rfl ?_ | refine z21 ?_ | refine z23 ?_ | exact z24 | refine z25 ?_ rfl rfl ?_ | refine z22 ?_ | refine z26 ?_ rfl rfl ?_ ?_ | refine z27 ?_ rfl rfl ?_ ?_ ?_ | exact True.intro | exact z4 rfl | exact z5 | exact z6 | exact z7 | exact z8 | exact z9 | exact z10 | refine z36 ?_ | refine z37 rfl ?_ | exact z38 | exact z39 | refine z40 (xs := ?_) (ys := ?_) ?_ ?_ | refine z41 (xs := ?_) (ys := ?_) ?_ ?_ ?_ ?_ | refine z42 (xs := ?_) ?_ | refine z43 (xs := ?_) ?_ | refine z44 (x := ?_) (xs := ?_) ?_ ?_ | refine RowsAre.rep (x := ?_) (n := ?_) ?_ | (with_reducible show RowIs _ _ _; first | exact Int_row _ | exact Str_row _) | (with_reducible show RowIs _ _ _; first | exact GTxnGuard_row _ | exact GTxnGuard_mk _ _ _ | exact GTxnSum_row _ | exact GTxnSum_mk _ _ _) | with_reducible exact rfl | (refine z11 ?_; omega) | (refine z12 ?_; omega) | simp only [List.length_append, List.length_map, List.length_cons, List.length_nil, List.length_set, List.length_replicate])); (all_goals (fail_if_success (with_reducible show FZ _ _))); (all_goals (fail_if_success (with_reducible show List.contains _ _ = true))); (all_goals (fail_if_success (with_reducible show False))); (all_goals (fail_if_success (with_reducible show VSub _ _ _ _ _ _))))))))
    | ((with_reducible show BackG _ _);(first
      | ((first
      | (guard_hyp t0;refine backR 2 (ix1 + 1) (Ent.places [] _ (by simp only [go_sem,reduceCtorEq,Nat.reduceAdd,Nat.reduceSub,Nat.reduceMul,Nat.reduceLeDiff,Nat.reduceLT,Nat.reduceEqDiff];rfl) rfl rfl (Nat.zero_le _) ?_ ?_) ?_ ?_;rotate_left 3;(focus ((try dsimp only);omega));rotate_right 3)
      | (guard_hyp t2;refine backR 2 (ix1 + 1) (Ent.places [] _ (by simp only [go_sem,reduceCtorEq,Nat.reduceAdd,Nat.reduceSub,Nat.reduceMul,Nat.reduceLeDiff,Nat.reduceLT,Nat.reduceEqDiff];rfl) rfl rfl (Nat.zero_le _) ?_ ?_) ?_ ?_;rotate_left 3;(focus ((try dsimp only);omega));rotate_right 3)
      | (guard_hyp t4;refine backR 2 (ix1 + 1) (Ent.places [] _ (by simp only [go_sem,reduceCtorEq,Nat.reduceAdd,Nat.reduceSub,Nat.reduceMul,Nat.reduceLeDiff,Nat.reduceLT,Nat.reduceEqDiff];rfl) rfl rfl (Nat.zero_le _) ?_ ?_) ?_ ?_;rotate_left 3;(focus ((try dsimp only);omega));rotate_right 3)
      ); (focus (repeat' (first | simp only [z1, z2, z3, Nat.reduceEqDiff, Nat.reduceLT, not_false_eq_true] | exact z28 | refine z29 ?_ ?_ | exact z31 | refine z32 ?_ ?_ | refine z30 ?_ | exact z33 | refine z34 rfl ?_ ?_ | refine z35 ?_ | exact z13 | exact z14 | exact z15 | exact z16 | refine z17 ?_ | refine z18 rfl ?_ | refine z19 rfl ?_ ?_ | (show lτ _ _ = some _; exact rfl) | exact z20 rfl rfl | refine z20 rfl ?_ | refine z21 ?_ | refine z23 ?_ | exact z24 | refine z25 ?_ rfl rfl ?_ | refine z22 ?_ | refine z26 ?_ rfl rfl ?_ ?_ | refine z27 ?_ rfl rfl ?_ ?_ ?_ | exact True.intro | exact z4 rfl | exact z5 | exact z6 | exact z7 | exact z8 | exact z9 | exact z10 | refine z36 ?_ | refine z37 rfl ?_ | exact z38 | exact z39 | refine z40 (xs := ?_) (ys := ?_) ?_ ?_ | refine z41 (xs := ?_) (ys := ?_) ?_ ?_ ?_ ?_ | refine z42 (xs := ?_) ?_ | refine z43 (xs := ?_) ?_ | refine z44 (x := ?_) (xs := ?_) ?_ ?_ | refine RowsAre.rep (x := ?_) (n := ?_) ?_ | (with_reducible show RowIs _ _ _; first | exact Int_row _ | exact Str_row _) | (with_reducible show RowIs _ _ _; first | exact GTxnGuard_row _ | exact GTxnGuard_mk _ _ _ | exact GTxnSum_row _ | exact GTxnSum_mk _ _ _) | with_reducible exact rfl | (refine z11 ?_; omega) | (refine z12 ?_; omega) | simp only [List.length_append, List.length_map, List.length_cons, List.length_nil, List.length_set, List.length_replicate]))); (focus (repeat' (first | simp only [z1, z2, z3, Nat.reduceEqDiff, Nat.reduceLT, not_false_eq_true] | exact z28 | refine z29 ?_ ?_ | exact z31 | refine z32 ?_ ?_ | refine z30 ?_ | exact z33 | refine z34 rfl ?_ ?_ | refine z35 ?_ | exact z13 | exact z14 | exact z15 | exact z16 | refine z17 ?_ | refine z18 rfl ?_ | refine z19 rfl ?_ ?_ | (show lτ _ _ = some _; exact rfl) | exact z20 rfl rfl | refine z20 rfl ?_ | refine z21 ?_ | refine z23 ?_ | exact z24 | refine z25 ?_ rfl rfl ?_ | refine z22 ?_ | refine z26 ?_ rfl rfl ?_ ?_ | refine z27 ?_ rfl rfl ?_ ?_ ?_ | exact True.intro | exact z4 rfl | exact z5 | exact z6 | exact z7 | exact z8 | exact z9 | exact z10 | refine z36 ?_ | refine z37 rfl ?_ | exact z38 | exact z39 | refine z40 (xs := ?_) (ys := ?_) ?_ ?_ | refine z41 (xs := ?_) (ys := ?_) ?_ ?_ ?_ ?_ | refine z42 (xs := ?_) ?_ | refine z43 (xs := ?_) ?_ | refine z44 (x := ?_) (xs := ?_) ?_ ?_ | refine RowsAre.rep (x := ?_) (n := ?_) ?_ | (with_reducible show RowIs _ _ _; first | exact Int_row _ | exact Str_row _) | (with_reducible show RowIs _ _ _; first | exact GTxnGuard_row _ | exact GTxnGuard_mk _ _ _ | exact GTxnSum_row _ | exact GTxnSum_mk _ _ _) | with_reducible exact rfl | (refine z11 ?_; omega) | (refine z12 ?_; omega) | simp only [List.length_append, List.length_map, List.length_cons, List.length_nil, List.length_set, List.length_replicate]))))
      | ((first
      | (guard_hyp t0;refine backR 2 (ix1 + 1) (Ent.places [] _ (by simp only [go_sem,reduceCtorEq,Nat.reduceAdd,Nat.reduceSub,Nat.reduceMul,Nat.reduceLeDiff,Nat.reduceLT,Nat.reduceEqDiff];rfl) rfl rfl (Nat.zero_le _) ?_ ?_) ?_ ?_)
      | (guard_hyp t2;refine backR 2 (ix1 + 1) (Ent.places [] _ (by simp only [go_sem,reduceCtorEq,Nat.reduceAdd,Nat.reduceSub,Nat.reduceMul,Nat.reduceLeDiff,Nat.reduceLT,Nat.reduceEqDiff];rfl) rfl rfl (Nat.zero_le _) ?_ ?_) ?_ ?_)
      | (guard_hyp t4;refine backR 2 (ix1 + 1) (Ent.places [] _ (by simp only [go_sem,reduceCtorEq,Nat.reduceAdd,Nat.reduceSub,Nat.reduceMul,Nat.reduceLeDiff,Nat.reduceLT,Nat.reduceEqDiff];rfl) rfl rfl (Nat.zero_le _) ?_ ?_) ?_ ?_)
      ); (focus (repeat' (first | simp only [z1, z2, z3, Nat.reduceEqDiff, Nat.reduceLT, not_false_eq_true] | exact z28 | refine z29 ?_ ?_ | exact z31 | refine z32 ?_ ?_ | refine z30 ?_ | exact z33 | refine z34 rfl ?_ ?_ | refine z35 ?_ | exact z13 | exact z14 | exact z15 | exact z16 | refine z17 ?_ | refine z18 rfl ?_ | refine z19 rfl ?_ ?_ | (show lτ _ _ = some _; exact rfl) | exact z20 rfl rfl | refine z20 rfl ?_ | refine z21 ?_ | refine z23 ?_ | exact z24 | refine z25 ?_ rfl rfl ?_ | refine z22 ?_ | refine z26 ?_ rfl rfl ?_ ?_ | refine z27 ?_ rfl rfl ?_ ?_ ?_ | exact True.intro | exact z4 rfl | exact z5 | exact z6 | exact z7 | exact z8 | exact z9 | exact z10 | refine z36 ?_ | refine z37 rfl ?_ | exact z38 | exact z39 | refine z40 (xs := ?_) (ys := ?_) ?_ ?_ | refine z41 (xs := ?_) (ys := ?_) ?_ ?_ ?_ ?_ | refine z42 (xs := ?_) ?_ | refine z43 (xs := ?_) ?_ | refine z44 (x := ?_) (xs := ?_) ?_ ?_ | refine RowsAre.rep (x := ?_) (n := ?_) ?_ | (with_reducible show RowIs _ _ _; first | exact Int_row _ | exact Str_row _) | (with_reducible show RowIs _ _ _; first | exact GTxnGuard_row _ | exact GTxnGuard_mk _ _ _ | exact GTxnSum_row _ | exact GTxnSum_mk _ _ _) | with_reducible exact rfl | (refine z11 ?_; omega) | (refine z12 ?_; omega) | simp only [List.length_append, List.length_map, List.length_cons, List.length_nil, List.length_set, List.length_replicate]))); (focus (repeat' (first | simp only [z1, z2, z3, Nat.reduceEqDiff, Nat.reduceLT, not_false_eq_true] | exact z28 | refine z29 ?_ ?_ | exact z31 | refine z32 ?_ ?_ | refine z30 ?_ | exact z33 | refine z34 rfl ?_ ?_ | refine z35 ?_ | exact z13 | exact z14 | exact z15 | exact z16 | refine z17 ?_ | refine z18 rfl ?_ | refine z19 rfl ?_ ?_ | (show lτ _ _ = some _; exact rfl) | exact z20 rfl rfl | refine z20 rfl ?_ | refine z21 ?_ | refine z23 ?_ | exact z24 | refine z25 ?_ rfl rfl ?_ | refine z22 ?_ | refine z26 ?_ rfl rfl ?_ ?_ | refine z27 ?_ rfl rfl ?_ ?_ ?_ | exact True.intro | exact z4 rfl | exact z5 | exact z6 | exact z7 | exact z8 | exact z9 | exact z10 | refine z36 ?_ | refine z37 rfl ?_ | exact z38 | exact z39 | refine z40 (xs := ?_) (ys := ?_) ?_ ?_ | refine z41 (xs := ?_) (ys := ?_) ?_ ?_ ?_ ?_ | refine z42 (xs := ?_) ?_ | refine z43 (xs := ?_) ?_ | refine z44 (x := ?_) (xs := ?_) ?_ ?_ | refine RowsAre.rep (x := ?_) (n := ?_) ?_ | (with_reducible show RowIs _ _ _; first | exact Int_row _ | exact Str_row _) | (with_reducible show RowIs _ _ _; first | exact GTxnGuard_row _ | exact GTxnGuard_mk _ _ _ | exact GTxnSum_row _ | exact GTxnSum_mk _ _ _) | with_reducible exact rfl | (refine z11 ?_; omega) | (refine z12 ?_; omega) | simp only [List.length_append, List.length_map, List.length_cons, List.length_nil, List.length_set, List.length_replicate]))); rotate_left 1; (focus ((try dsimp only); first | omega | (simp only [List.length_set, List.length_append, List.length_cons, List.length_nil]; omega))))))
    | ((with_reducible show EndK _ _ _ _ _ _ _);(first
      | ((first
      | (guard_hyp t0;refine EndK.eqv (vs := ?_) (f := fun x : Int => .lit (.int .i64 x)) ?_ (by first|exact .inr rfl|exact .inl rfl) ?_ ?_ ?_;rotate_left 2)
      | (guard_hyp t1;refine EndK.eqv (vs := ?_) (f := fun x : Bool => .lit (.bool x)) ?_ (by first|exact .inr rfl|exact .inl rfl) ?_ ?_ ?_;rotate_left 2)
      | (guard_hyp t2;refine EndK.eqv (vs := ?_) (f := fun x : Int => .lit (.int .i64 x)) ?_ (by first|exact .inr rfl|exact .inl rfl) ?_ ?_ ?_;rotate_left 2)
      | (guard_hyp t3;refine EndK.eqv (vs := ?_) (f := fun x : Bool => .lit (.bool x)) ?_ (by first|exact .inr rfl|exact .inl rfl) ?_ ?_ ?_;rotate_left 2)
      | (guard_hyp t4;refine EndK.eqv (vs := ?_) (f := fun x : Int => .lit (.int .i64 x)) ?_ (by first|exact .inr rfl|exact .inl rfl) ?_ ?_ ?_;rotate_left 2)
      | (guard_hyp t5;refine EndK.eqv (vs := ?_) (f := fun x : Bool => .lit (.bool x)) ?_ (by first|exact .inr rfl|exact .inl rfl) ?_ ?_ ?_;rotate_left 2)
      ); (focus (simp only [go_sem, reduceCtorEq, Nat.reduceAdd, Nat.reduceSub, Nat.reduceMul, Nat.reduceLeDiff, Nat.reduceLT, Nat.reduceEqDiff]; exact rfl)); (focus (repeat' (first | simp only [z1, z2, z3, Nat.reduceEqDiff, Nat.reduceLT, not_false_eq_true] | exact z28 | refine z29 ?_ ?_ | exact z31 | refine z32 ?_ ?_ | refine z30 ?_ | exact z33 | refine z34 rfl ?_ ?_ | refine z35 ?_ | exact z13 | exact z14 | exact z15 | exact z16 | refine z17 ?_ | refine z18 rfl ?_ | refine z19 rfl ?_ ?_ | (show lτ _ _ = some _; exact rfl) | exact z20 rfl rfl | refine z20 rfl ?_ | refine z21 ?_ | refine z23 ?_ | exact z24 | refine z25 ?_ rfl rfl ?_ | refine z22 ?_ | refine z26 ?_ rfl rfl ?_ ?_ | refine z27 ?_ rfl rfl ?_ ?_ ?_ | exact True.intro | exact z4 rfl | exact z5 | exact z6 | exact z7 | exact z8 | exact z9 | exact z10 | refine z36 ?_ | refine z37 rfl ?_ | exact z38 | exact z39 | refine z40 (xs := ?_) (ys := ?_) ?_ ?_ | refine z41 (xs := ?_) (ys := ?_) ?_ ?_ ?_ ?_ | refine z42 (xs := ?_) ?_ | refine z43 (xs := ?_) ?_ | refine z44 (x := ?_) (xs := ?_) ?_ ?_ | refine RowsAre.rep (x := ?_) (n := ?_) ?_ | (with_reducible show RowIs _ _ _; first | exact Int_row _ | exact Str_row _) | (with_reducible show RowIs _ _ _; first | exact GTxnGuard_row _ | exact GTxnGuard_mk _ _ _ | exact GTxnSum_row _ | exact GTxnSum_mk _ _ _) | with_reducible exact rfl | (refine z11 ?_; omega) | (refine z12 ?_; omega) | simp only [List.length_append, List.length_map, List.length_cons, List.length_nil, List.length_set, List.length_replicate]))))))
    | (refine h1 _ _ ?_;clear h1 K1)
    | (with_reducible refine GTxnGuard_ex _ _ _ ?_)
    | (with_reducible refine GTxnSum_ex _ _ _ ?_)
    | (with_reducible refine GInt_ex _ ?_)
    | refine And.intro ?_ ?_
    | ((first|with_reducible show (_ : Int) ≤ _|with_reducible show (_ : Int) < _|with_reducible show (_ : Int) = _|with_reducible show (_ : Nat) ≤ _|with_reducible show (_ : Nat) < _|with_reducible show (_ : Nat) = _|with_reducible show ¬ _|with_reducible show _ ≠ _|with_reducible show False);omega)
    | (intro h;(try simp only [decide_eq_true_eq,decide_eq_false_iff_not,Int.not_lt,Int.not_le,beq_iff_eq,bne_iff_ne,beq_eq_false_iff_ne,bne_eq_false_iff_eq,ne_eq,Bool.not_eq_true',Bool.not_eq_false',Decidable.not_not] at h);(try contradiction)))
  all_goals (try clear h1); all_goals (try clear K1); all_goals (try clear hK); all_goals (try clear K); all_goals (try dsimp only); all_goals (try simp only [Bool.not_eq_false', Bool.not_eq_true', decide_eq_true_eq, decide_eq_false_iff_not] at *); all_goals (try simp only [GTxnGuard_eta, GTxnSum_eta] at *); all_goals (try clear slices_IndexFunc_TxnGuard_f_im_TxnOk_1_c); all_goals (try clear slices_IndexFunc_TxnSum_f_im_TxnOk_2_c); all_goals (try clear slices_IndexFunc_int_f_im_TxnOk_3_c)
  all_goals first
    | omega
    | (simp only [List.length_cons,List.length_nil,Nat.reduceAdd];done)
    | (simp only [List.length_set,List.length_append,List.length_cons,List.length_nil,List.length_map,List.length_take,List.length_drop];omega)
    | (obtain ⟨x,_,rfl⟩ := List.mem_map.1 (by assumption);rfl)
    | (obtain ⟨x,_,rfl⟩ := List.mem_map.1 (List.mem_of_mem_take (by assumption));rfl)
    | (obtain ⟨x,_,rfl⟩ := List.mem_map.1 (List.mem_of_mem_drop (List.mem_of_mem_take (by assumption)));rfl)
    | (simp (disch := omega) only [wr_id];omega)
    | (guard_hyp t0;first|(rw [slices_IndexFunc_TxnGuard_f_im_TxnOk_1_K1,slices_IndexFunc_TxnGuard_f_im_TxnOk_1_L1] at hM;rw [slices_IndexFunc_TxnGuard_f_im_TxnOk_1_K1];all_goals grind)|(rw [slices_IndexFunc_TxnGuard_f_im_TxnOk_1_K1,slices_IndexFunc_TxnGuard_f_im_TxnOk_1_L1] at hM;grind)|(rw [slices_IndexFunc_TxnGuard_f_im_TxnOk_1];all_goals first|grind|(repeat' split) <;> first|rfl|grind))
    | (guard_hyp t1;first|(rw [slices_ContainsFunc_TxnGuard_f_im_TxnOk_1];all_goals first|grind|(repeat' split) <;> first|rfl|grind))
    | (guard_hyp t2;first|(rw [slices_IndexFunc_TxnSum_f_im_TxnOk_2_K1,slices_IndexFunc_TxnSum_f_im_TxnOk_2_L1] at hM;rw [slices_IndexFunc_TxnSum_f_im_TxnOk_2_K1];all_goals grind)|(rw [slices_IndexFunc_TxnSum_f_im_TxnOk_2_K1,slices_IndexFunc_TxnSum_f_im_TxnOk_2_L1] at hM;grind)|(rw [slices_IndexFunc_TxnSum_f_im_TxnOk_2];all_goals first|grind|(repeat' split) <;> first|rfl|grind))
    | (guard_hyp t3;first|(rw [slices_ContainsFunc_TxnSum_f_im_TxnOk_2];all_goals first|grind|(repeat' split) <;> first|rfl|grind))
    | (guard_hyp t4;first|(rw [slices_IndexFunc_int_f_im_TxnOk_3_K1,slices_IndexFunc_int_f_im_TxnOk_3_L1] at hM;rw [slices_IndexFunc_int_f_im_TxnOk_3_K1];all_goals grind)|(rw [slices_IndexFunc_int_f_im_TxnOk_3_K1,slices_IndexFunc_int_f_im_TxnOk_3_L1] at hM;grind)|(rw [slices_IndexFunc_int_f_im_TxnOk_3];all_goals first|grind|(repeat' split) <;> first|rfl|grind))
    | (guard_hyp t5;first|(rw [slices_ContainsFunc_int_f_im_TxnOk_3];all_goals first|grind|(repeat' split) <;> first|rfl|grind))
    | grind)
theorem slices_IndexFunc_TxnGuard_f_im_TxnOk_1_c : Sslices_IndexFunc_TxnGuard_f_im_TxnOk_1_c := layU61.1
theorem slices_ContainsFunc_TxnGuard_f_im_TxnOk_1_c : Sslices_ContainsFunc_TxnGuard_f_im_TxnOk_1_c := layU61.2.1 slices_IndexFunc_TxnGuard_f_im_TxnOk_1_c
theorem slices_IndexFunc_TxnSum_f_im_TxnOk_2_c : Sslices_IndexFunc_TxnSum_f_im_TxnOk_2_c := layU61.2.2.1
theorem slices_ContainsFunc_TxnSum_f_im_TxnOk_2_c : Sslices_ContainsFunc_TxnSum_f_im_TxnOk_2_c := layU61.2.2.2.1 slices_IndexFunc_TxnSum_f_im_TxnOk_2_c
theorem slices_IndexFunc_int_f_im_TxnOk_3_c : Sslices_IndexFunc_int_f_im_TxnOk_3_c := layU61.2.2.2.2.1
theorem slices_ContainsFunc_int_f_im_TxnOk_3_c : Sslices_ContainsFunc_int_f_im_TxnOk_3_c := layU61.2.2.2.2.2 slices_IndexFunc_int_f_im_TxnOk_3_c
end Go.Proofs.Ytghkelfpomfadaa
end
section
namespace Go.Proofs.Ytghkelfpomfadaa
open Go.Ae
open Go.Ae renaming getR_eq → z1, getR_ne → z2, getR_nil → z3, lF_mk → z4, cont1 → z5, cont2a → z6, cont2b → z7, cont3a → z8, cont3b → z9, cont3c → z10, wr_up → z11, wr_dn → z12
open Go.Ae.VSub renaming any' → z13, same → z14, nilRd → z15, mtRd → z16, lit → z17, ptr' → z18, sl' → z19, slNil → z20, agg' → z21, tup' → z22, fn' → z23, rpSame → z24, rpF → z25, frz → z26, frzC → z27
open Go.Ae.LSub renaming nil' → z28, cons' → z29, mkR' → z30
open Go.Ae.SSub renaming nil' → z31, cons' → z32
open Go.Ae.HTell renaming nil' → z33, some' → z34, freshRows → z35
open Go.Ae.BSub renaming cells' → z36, own → z37
open Go.Ae.RowsAre renaming map → z38, nil → z39, app → z40, spl → z41, take → z42, drop → z43, cons → z44
open Go.Ae.CallA renaming gv0 → z45, lend → z46
set_option linter.unusedSimpArgs false
set_option linter.unusedVariables false
attribute [local irreducible] wr bitsOf VSub LSub SSub HTell BSub RowIs RowsAre Ent lF mkR
def im_TxnOk (t : GTxn) : Bool :=
  let q0 := (t.Guards.length : Int)
  let q1 := (t.Writes.length : Int)
  let q2 := (t.Reads.length : Int)
  let g := q0
  let w := q1
  let r := q2
  if (((if r > (if w > g then w else g) then r else (if w > g then w else g)) > 4) ∨ ((wr .i64 ((wr .i64 (g + w)) + r)) = 0)) then
    false
  else 
    if ((((slices_ContainsFunc_TxnGuard_f_im_TxnOk_1 t.Guards) = true) ∨ ((slices_ContainsFunc_TxnSum_f_im_TxnOk_2 t.Writes) = true)) ∨ ((slices_ContainsFunc_int_f_im_TxnOk_3 t.Reads) = true)) then
      false
    else 
      (((im_rising_TxnGuard_f_im_TxnOk_4 t.Guards) && (im_rising_TxnSum_f_im_TxnOk_5 t.Writes)) && (im_rising_int_f_im_own t.Reads))
def Sim_TxnOk_c : Prop := ∀ (t : GTxn) (hp0 : t.Guards.length ≤ 2147483648) (hp1 : t.Writes.length ≤ 2147483648) (hp2 : t.Reads.length ≤ 2147483648), Gives Try.prog 17 [.agg [.r (.rd 3 encGTxnGuard t.Guards), .r (.rd 3 encGTxnSum t.Writes), .r (.rd 1 encInt t.Reads)]] (.lit (.bool (im_TxnOk t)))
set_option maxRecDepth 10000 in
set_option maxHeartbeats 2000000 in
theorem layU71 : (Sim_TxnOk_c) := by
  refine fun t hp0 hp1 hp2 => have t0 := tg 0; Does.goR Try.func17 Try.ntmps17 Try.results17 rfl (Nat.zero_le _) rfl ?_
  all_goals (
  simp only [argR, Nat.reduceAdd]
  repeat' (first
    | ((with_reducible show Aft _ _ _ _);(first|refine Aft.t ?_|refine Aft.q ?_|refine Aft.b ?_|refine Aft.e ?_|refine Aft.tr ?_|refine Aft.br ?_|refine Aft.qr ?_|refine Aft.tx ?_|refine Aft.bx ?_|refine Aft.by' rfl ?_|refine Aft.qx ?_))
    | ((with_reducible show RegS _ _ _ _ _ _);(first
      | (refine RegS.nil (hK _ _ ?_);clear hK K)
      | ((first|refine RegS.stepN fun K1 h1 => ?_|refine RegS.step fun K1 h1 => ?_);simp only [go_sem,reduceCtorEq,Nat.reduceAdd,Nat.reduceSub,Nat.reduceMul,Nat.reduceLeDiff,Nat.reduceLT,Nat.reduceEqDiff])))
    | ((with_reducible show QuietS _ _ _ _ _ _);(first
      | (refine QuietS.nil (hK _ _ ?_);clear hK K)
      | ((first|refine QuietS.stepN fun K1 h1 => ?_|refine QuietS.step fun K1 h1 => ?_);simp only [go_sem,reduceCtorEq,Nat.reduceAdd,Nat.reduceSub,Nat.reduceMul,Nat.reduceLeDiff,Nat.reduceLT,Nat.reduceEqDiff])))
    | ((with_reducible show Tri _ _ _ _ _ _);(first
      | (refine Tri.regSeq fun K hK => RegS.run ?_)
      | (refine Tri.regA fun K hK => ?_)
      | (refine Tri.cond (b := ?_) ?_ ?_ ?_;rotate_left 1;focus (simp only [ev,z1,z2,Nat.reduceEqDiff,Nat.reduceLT,not_false_eq_true];exact rfl))
      | refine Tri.skipA ?_
      | refine Tri.exitA ?_
      | refine Tri.retA ?_
      | refine Tri.block ?_
      | (guard_hyp t0;(first|(refine Tri.fastSeqN 1 rfl mixedP (by kernel_rfl) fun K hK => QuietS.run ?_)|(refine Tri.fastA 1 rfl mixedP (by kernel_rfl) fun K hK => ?_) ))
      | refine Tri.seq ?_))
    | ((with_reducible show CallA _ _ _ _ _);(first
      | ((first
      | (refine z45 (slices_ContainsFunc_TxnGuard_f_im_TxnOk_1_c ?_ ?_) ?_ ?_;rotate_left 2)
      | (refine z45 (slices_ContainsFunc_TxnSum_f_im_TxnOk_2_c ?_ ?_) ?_ ?_;rotate_left 2)
      | (refine z45 (slices_ContainsFunc_int_f_im_TxnOk_3_c ?_ ?_) ?_ ?_;rotate_left 2)
      | (refine z45 (im_rising_TxnGuard_f_im_TxnOk_4_c ?_ ?_) ?_ ?_;rotate_left 2)
      | (refine z45 (im_rising_TxnSum_f_im_TxnOk_5_c ?_ ?_) ?_ ?_;rotate_left 2)
      | (refine z45 (im_rising_int_f_im_own_c ?_ ?_) ?_ ?_;rotate_left 2)
      ); (focus ((repeat' (first | simp only [z1, z2, z3, Nat.reduceEqDiff, Nat.reduceLT, not_false_eq_true] | exact z28 | refine z29 ?_ ?_ | exact z31 | refine z32 ?_ ?_ | refine z30 ?_ | exact z33 | refine z34 rfl ?_ ?_ | refine z35 ?_ | exact z13 | exact z14 | exact z15 | exact z16 | refine z17 ?_ | refine z18 rfl ?_ | refine z19 rfl ?_ ?_ | (show lτ _ _ = some _; exact rfl) | exact z20 rfl rfl | refine z20 rfl ?_ | refine z21 ?_ | refine z23 ?_ | exact z24 | refine z25 ?_ rfl rfl ?_ | refine z22 ?_ | refine z26 ?_ rfl rfl ?_ ?_ | refine z27 ?_ rfl rfl ?_ ?_ ?_ | exact True.intro | exact z4 rfl | exact z5 | exact z6 | exact z7 | exact z8 | exact z9 | exact z10 | refine z36 ?_ | refine z37 rfl ?_ | exact z38 | exact z39 | refine z40 (xs := ?_) (ys := ?_) ?_ ?_ | refine z41 (xs := ?_) (ys := ?_) ?_ ?_ ?_ ?_ | refine z42 (xs := ?_) ?_ | refine z43 (xs := ?_) ?_ | refine z44 (x := ?_) (xs := ?_) ?_ ?_ | refine RowsAre.rep (x := ?_) (n := ?_) ?_ | (with_reducible show RowIs _ _ _; first | exact Int_row _ | exact Str_row _) | (with_reducible show RowIs _ _ _; first | exact GTxn_row _ | exact GTxn_mk _ _ _ | exact GTxnGuard_row _ | exact GTxnGuard_mk _ _ _ | exact GTxnSum_row _ | exact GTxnSum_mk _ _ _) | with_reducible exact rfl | (refine z11 ?_; omega) | (refine z12 ?_; omega) | simp only [List.length_append, List.length_map, List.length_cons, List.length_nil, List.length_set, List.length_replicate])); (all_goals (fail_if_success (with_reducible show FZ _ _))); (all_goals (fail_if_success (with_reducible show List.contains _ _ = true))); (all_goals (fail_if_success (with_reducible show False))); (all_goals (fail_if_success (with_reducible show VSub _ _ _ _ _ _))))))
      | ((first
      | (refine z46 (slices_ContainsFunc_TxnGuard_f_im_TxnOk_1_c ?_ ?_) rfl ?_ ?_;rotate_left 2)
      | (refine z46 (slices_ContainsFunc_TxnSum_f_im_TxnOk_2_c ?_ ?_) rfl ?_ ?_;rotate_left 2)
      | (refine z46 (slices_ContainsFunc_int_f_im_TxnOk_3_c ?_ ?_) rfl ?_ ?_;rotate_left 2)
      | (refine z46 (im_rising_TxnGuard_f_im_TxnOk_4_c ?_ ?_) rfl ?_ ?_;rotate_left 2)
      | (refine z46 (im_rising_TxnSum_f_im_TxnOk_5_c ?_ ?_) rfl ?_ ?_;rotate_left 2)
      | (refine z46 (im_rising_int_f_im_own_c ?_ ?_) rfl ?_ ?_;rotate_left 2)
      ); (focus ((repeat' (first | simp only [z1, z2, z3, Nat.reduceEqDiff, Nat.reduceLT, not_false_eq_true] | exact z28 | refine z29 ?_ ?_ | exact z31 | refine z32 ?_ ?_ | refine z30 ?_ | exact z33 | refine z34 rfl ?_ ?_ | refine z35 ?_ | exact z13 | exact z14 | exact z15 | exact z16 | refine z17 ?_ | refine z18 rfl ?_ | refine z19 rfl ?_ ?_ | (show lτ _ _ = some _; exact rfl) | exact z20 rfl rfl | refine z20 rfl ?_ | refine z21 ?_ | refine z23 ?_ | exact z24 | refine z25 ?_ rfl rfl ?_ | refine z22 ?_ | refine z26 ?_ rfl rfl ?_ ?_ | refine z27 ?_ rfl rfl ?_ ?_ ?_ | exact True.intro | exact z4 rfl | exact z5 | exact z6 | exact z7 | exact z8 | exact z9 | exact z10 | refine z36 ?_ | refine z37 rfl ?_ | exact z38 | exact z39 | refine z40 (xs := ?_) (ys := ?_) ?_ ?_ | refine z41 (xs := ?_) (ys := ?_) ?_ ?_ ?_ ?_ | refine z42 (xs := ?_) ?_ | refine z43 (xs := ?_) ?_ | refine z44 (x := ?_) (xs := ?_) ?_ ?_ | refine RowsAre.rep (x := ?_) (n := ?_) ?_ | (with_reducible show RowIs _ _ _; first | exact Int_row _ | exact Str_row _) | (with_reducible show RowIs _ _ _; first | exact GTxn_row _ | exact GTxn_mk _ _ _ | exact GTxnGuard_row _ | exact GTxnGuard_mk _ _ _ | exact GTxnSum_row _ | exact GTxnSum_mk _ _ _) | with_reducible exact rfl | (refine z11 ?_; omega) | (refine z12 ?_; omega) | simp only [List.length_append, List.length_map, List.length_cons, List.length_nil, List.length_set, List.length_replicate])); (all_goals (fail_if_success (with_reducible show FZ _ _))); (all_goals (fail_if_success (with_reducible show List.contains _ _ = true))); (all_goals (fail_if_success (with_reducible show False))); (all_goals (fail_if_success (with_reducible show VSub _ _ _ _ _ _))))))))
    | ((with_reducible show CallL _ _ _ _);(first
      | ((first
      | (refine CallL.gv0 (slices_ContainsFunc_TxnGuard_f_im_TxnOk_1_c ?_ ?_) ?_ ?_;rotate_left 2)
      | (refine CallL.gv0 (slices_ContainsFunc_TxnSum_f_im_TxnOk_2_c ?_ ?_) ?_ ?_;rotate_left 2)
      | (refine CallL.gv0 (slices_ContainsFunc_int_f_im_TxnOk_3_c ?_ ?_) ?_ ?_;rotate_left 2)
      | (refine CallL.gv0 (im_rising_TxnGuard_f_im_TxnOk_4_c ?_ ?_) ?_ ?_;rotate_left 2)
      | (refine CallL.gv0 (im_rising_TxnSum_f_im_TxnOk_5_c ?_ ?_) ?_ ?_;rotate_left 2)
      | (refine CallL.gv0 (im_rising_int_f_im_own_c ?_ ?_) ?_ ?_;rotate_left 2)
      ); (focus ((repeat' (first | simp only [z1, z2, z3, Nat.reduceEqDiff, Nat.reduceLT, not_false_eq_true] | exact z28 | refine z29 ?_ ?_ | exact z31 | refine z32 ?_ ?_ | refine z30 ?_ | exact z33 | refine z34 rfl ?_ ?_ | refine z35 ?_ | exact z13 | exact z14 | exact z15 | exact z16 | refine z17 ?_ | refine z18 rfl ?_ | refine z19 rfl ?_ ?_ | (show lτ _ _ = some _; exact rfl) | exact z20 rfl rfl | refine z20 rfl ?_ | refine z21 ?_ | refine z23 ?_ | exact z24 | refine z25 ?_ rfl rfl ?_ | refine z22 ?_ | refine z26 ?_ rfl rfl ?_ ?_ | refine z27 ?_ rfl rfl ?_ ?_ ?_ | exact True.intro | exact z4 rfl | exact z5 | exact z6 | exact z7 | exact z8 | exact z9 | exact z10 | refine z36 ?_ | refine z37 rfl ?_ | exact z38 | exact z39 | refine z40 (xs := ?_) (ys := ?_) ?_ ?_ | refine z41 (xs := ?_) (ys := ?_) ?_ ?_ ?_ ?_ | refine z42 (xs := ?_) ?_ | refine z43 (xs := ?_) ?_ | refine z44 (x := ?_) (xs := ?_) ?_ ?_ | refine RowsAre.rep (x := ?_) (n := ?_) ?_ | (with_reducible show RowIs _ _ _; first | exact Int_row _ | exact Str_row _) | (with_reducible show RowIs _ _ _; first | exact GTxn_row _ | exact GTxn_mk _ _ _ | exact GTxnGuard_row _ | exact GTxnGuard_mk _ _ _ | exact GTxnSum_row _ | exact GTxnSum_mk _ _ _) | with_reducible exact rfl | (refine z11 ?_; omega) | (refine z12 ?_; omega) | simp only [List.length_append, List.length_map, List.length_cons, List.length_nil, List.length_set, List.length_replicate])); (all_goals (fail_if_success (with_reducible show FZ _ _))); (all_goals (fail_if_success (with_reducible show List.contains _ _ = true))); (all_goals (fail_if_success (with_reducible show False))); (all_goals (fail_if_success (with_reducible show VSub _ _ _ _ _ _))))))))
    | ((with_reducible show EndK _ _ _ _ _ _ _);(first
      | ((guard_hyp t0;refine EndK.eqv (vs := ?_) (f := fun x : Bool => .lit (.bool x)) ?_ (by first|exact .inr rfl|exact .inl rfl) ?_ ?_ ?_;rotate_left 2);(focus (simp only [go_sem,reduceCtorEq,Nat.reduceAdd,Nat.reduceSub,Nat.reduceMul,Nat.reduceLeDiff,Nat.reduceLT,Nat.reduceEqDiff];exact rfl));(focus (repeat' (first|simp only [z1,z2,z3,Nat.reduceEqDiff,Nat.reduceLT,not_false_eq_true]|exact z28|refine z29 ?_ ?_|exact z31|refine z32 ?_ ?_|refine z30 ?_|exact z33|refine z34 rfl ?_ ?_|refine z35 ?_|exact z13|exact z14|exact z15|exact z16|refine z17 ?_|refine z18 rfl ?_|refine z19 rfl ?_ ?_|(show lτ _ _ = some _;exact rfl)|exact z20 rfl rfl|refine z20 rfl ?_|refine z21 ?_|refine z23 ?_|exact z24|refine z25 ?_ rfl rfl ?_|refine z22 ?_|refine z26 ?_ rfl rfl ?_ ?_|refine z27 ?_ rfl rfl ?_ ?_ ?_|exact True.intro|exact z4 rfl|exact z5|exact z6|exact z7|exact z8|exact z9|exact z10|refine z36 ?_|refine z37 rfl ?_|exact z38|exact z39|refine z40 (xs := ?_) (ys := ?_) ?_ ?_|refine z41 (xs := ?_) (ys := ?_) ?_ ?_ ?_ ?_|refine z42 (xs := ?_) ?_|refine z43 (xs := ?_) ?_|refine z44 (x := ?_) (xs := ?_) ?_ ?_|refine RowsAre.rep (x := ?_) (n := ?_) ?_|(with_reducible show RowIs _ _ _;first|exact Int_row _|exact Str_row _)|(with_reducible show RowIs _ _ _;first|exact GTxn_row _|exact GTxn_mk _ _ _|exact GTxnGuard_row _|exact GTxnGuard_mk _ _ _|exact GTxnSum_row _|exact GTxnSum_mk _ _ _)|with_reducible exact rfl|(refine z11 ?_;omega)|(refine z12 ?_;omega)|simp only [List.length_append,List.length_map,List.length_cons,List.length_nil,List.length_set,List.length_replicate]))))))
    | (refine h1 _ _ ?_;clear h1 K1)
    | (with_reducible refine GTxnGuard_ex _ _ _ ?_)
    | (with_reducible refine GTxnSum_ex _ _ _ ?_)
    | (with_reducible refine GInt_ex _ ?_)
    | refine And.intro ?_ ?_
    | ((first|with_reducible show (_ : Int) ≤ _|with_reducible show (_ : Int) < _|with_reducible show (_ : Int) = _|with_reducible show (_ : Nat) ≤ _|with_reducible show (_ : Nat) < _|with_reducible show (_ : Nat) = _|with_reducible show ¬ _|with_reducible show _ ≠ _|with_reducible show False);omega)
    | (intro h;(try simp only [decide_eq_true_eq,decide_eq_false_iff_not,Int.not_lt,Int.not_le,beq_iff_eq,bne_iff_ne,beq_eq_false_iff_ne,bne_eq_false_iff_eq,ne_eq,Bool.not_eq_true',Bool.not_eq_false',Decidable.not_not] at h);(try contradiction)))
  all_goals (try clear h1); all_goals (try clear K1); all_goals (try clear hK); all_goals (try clear K); all_goals (try dsimp only); all_goals (try simp only [Bool.not_eq_false', Bool.not_eq_true', decide_eq_true_eq, decide_eq_false_iff_not] at *); all_goals (try simp only [GTxn_eta, GTxnGuard_eta, GTxnSum_eta] at *)
  all_goals first
    | omega
    | (simp only [List.length_cons,List.length_nil,Nat.reduceAdd];done)
    | (simp only [List.length_set,List.length_append,List.length_cons,List.length_nil,List.length_map,List.length_take,List.length_drop];omega)
    | (obtain ⟨x,_,rfl⟩ := List.mem_map.1 (by assumption);rfl)
    | (obtain ⟨x,_,rfl⟩ := List.mem_map.1 (List.mem_of_mem_take (by assumption));rfl)
    | (obtain ⟨x,_,rfl⟩ := List.mem_map.1 (List.mem_of_mem_drop (List.mem_of_mem_take (by assumption)));rfl)
    | (simp (disch := omega) only [wr_id];omega)
    | (guard_hyp t0;first|(rw [im_TxnOk];all_goals first|grind|(repeat' split) <;> first|rfl|grind))
    | grind)
theorem im_TxnOk_c : Sim_TxnOk_c := layU71
end Go.Proofs.Ytghkelfpomfadaa
end
