/- Contracts of the program on pairs in form, for lists whose lengths are bounded as stated. -/
import Derived.Test.YtghkelfpomfadaaG1
set_option linter.unusedVariables false
set_option linter.unusedSimpArgs false
section
namespace Go.Proofs.Ytghkelfpomfadaa
open Go.Ae
open Go.Ae renaming getR_eq → z1, getR_ne → z2, getR_nil → z3, lF_mk → z4, cont1 → z5, cont2a → z6, cont2b → z7, cont3a → z8, cont3b → z9, cont3c → z10, wr_up → z11, wr_dn → z12
open Go.Ae.VSub renaming any' → z13, same → z14, nilRd → z15, mtRd → z16, lit → z17, ptr' → z18, sl' → z19, slNil → z20, agg' → z21, tup' → z22, fn' → z23, rpSame → z24, rpF → z25, frz → z26, frzC → z27
open Go.Ae.LSub renaming nil' → z28, cons' → z29, mkR' → z30
open Go.Ae.SSub renaming nil' → z31, cons' → z32
open Go.Ae.HTell renaming nil' → z33, some' → z34, freshRows → z35
open Go.Ae.BSub renaming cells' → z36, own → z37
open Go.Ae.RowsAre renaming map → z38, nil → z39, app → z40, spl → z41, take → z42, drop → z43, cons → z44
set_option linter.unusedSimpArgs false
set_option linter.unusedVariables false
attribute [local irreducible] wr bitsOf VSub LSub SSub HTell BSub RowIs RowsAre Ent lF mkR
def im_in (n : Int) (low : Int) (high : Int) : Bool :=
  ((decide (n ≥ low)) && (decide (n ≤ high)))
def im_isKey (n : Int) : Bool :=
  (im_in n 0 39)
def im_isVal (n : Int) : Bool :=
  (im_in n (-99999) 99999)
def Sim_in_c : Prop := ∀ (n : Int) (low : Int) (high : Int), Gives Try.prog 28 [.lit (.int .i64 n), .lit (.int .i64 low), .lit (.int .i64 high)] (.lit (.bool (im_in n low high)))
def Sim_isKey_c : Prop := ∀ (n : Int), Gives Try.prog 35 [.lit (.int .i64 n)] (.lit (.bool (im_isKey n)))
def Sim_isVal_c : Prop := ∀ (n : Int), Gives Try.prog 30 [.lit (.int .i64 n)] (.lit (.bool (im_isVal n)))
set_option maxRecDepth 10000 in
set_option maxHeartbeats 6000000 in
theorem layU11 : (Sim_in_c) ∧ (Sim_in_c → Sim_isKey_c) ∧ (Sim_in_c → Sim_isVal_c) := by
  refine ⟨fun n low high => have t0 := tg 0; Does.goR Try.func28 Try.ntmps28 Try.results28 rfl (Nat.zero_le _) rfl ?_,
    fun im_in_c n => have t1 := tg 1; Does.goR Try.func35 Try.ntmps35 Try.results35 rfl (Nat.zero_le _) rfl ?_,
    fun im_in_c n => have t2 := tg 2; Does.goR Try.func30 Try.ntmps30 Try.results30 rfl (Nat.zero_le _) rfl ?_⟩
  all_goals (
  simp only [argR, Nat.reduceAdd]
  repeat' (first
    | ((with_reducible show Aft _ _ _ _);(first|refine Aft.t ?_|refine Aft.q ?_|refine Aft.b ?_|refine Aft.e ?_|refine Aft.tr ?_|refine Aft.br ?_|refine Aft.qr ?_|refine Aft.tx ?_|refine Aft.bx ?_|refine Aft.by' rfl ?_|refine Aft.qx ?_))
    | ((with_reducible show RegS _ _ _ _ _ _);(first
      | (refine RegS.nil (hK _ _ ?_);clear hK K)
      | ((first|refine RegS.stepN fun K1 h1 => ?_|refine RegS.step fun K1 h1 => ?_);simp only [go_sem,reduceCtorEq,Nat.reduceAdd,Nat.reduceSub,Nat.reduceMul,Nat.reduceLeDiff,Nat.reduceLT,Nat.reduceEqDiff])))
    | ((with_reducible show QuietS _ _ _ _ _ _);(first
      | (refine QuietS.nil (hK _ _ ?_);clear hK K)
      | ((first|refine QuietS.stepN fun K1 h1 => ?_|refine QuietS.step fun K1 h1 => ?_);simp only [go_sem,reduceCtorEq,Nat.reduceAdd,Nat.reduceSub,Nat.reduceMul,Nat.reduceLeDiff,Nat.reduceLT,Nat.reduceEqDiff])))
    | ((with_reducible show Tri _ _ _ _ _ _);(first
      | (refine Tri.regSeq fun K hK => RegS.run ?_)
      | (refine Tri.regA fun K hK => ?_)
      | (refine Tri.cond (b := ?_) ?_ ?_ ?_;rotate_left 1;focus (simp only [ev,z1,z2,Nat.reduceEqDiff,Nat.reduceLT,not_false_eq_true];exact rfl))
      | refine Tri.skipA ?_
      | refine Tri.exitA ?_
      | refine Tri.retA ?_
      | refine Tri.block ?_
      | refine Tri.seq ?_))
    | ((with_reducible show CallA _ _ _ _ _);(first
      | ((refine CallA.gv0 (im_in_c ?_ ?_ ?_) ?_ ?_;rotate_left 3);(focus ((repeat' (first|simp only [z1,z2,z3,Nat.reduceEqDiff,Nat.reduceLT,not_false_eq_true]|exact z28|refine z29 ?_ ?_|exact z31|refine z32 ?_ ?_|refine z30 ?_|exact z33|refine z34 rfl ?_ ?_|refine z35 ?_|exact z13|exact z14|exact z15|exact z16|refine z17 ?_|refine z18 rfl ?_|refine z19 rfl ?_ ?_|(show lτ _ _ = some _;exact rfl)|exact z20 rfl rfl|refine z20 rfl ?_|refine z21 ?_|refine z23 ?_|exact z24|refine z25 ?_ rfl rfl ?_|refine z22 ?_|refine z26 ?_ rfl rfl ?_ ?_|refine z27 ?_ rfl rfl ?_ ?_ ?_|exact True.intro|exact z4 rfl|exact z5|exact z6|exact z7|exact z8|exact z9|exact z10|refine z36 ?_|refine z37 rfl ?_|exact z38|exact z39|refine z40 (xs := ?_) (ys := ?_) ?_ ?_|refine z41 (xs := ?_) (ys := ?_) ?_ ?_ ?_ ?_|refine z42 (xs := ?_) ?_|refine z43 (xs := ?_) ?_|refine z44 (x := ?_) (xs := ?_) ?_ ?_|refine RowsAre.rep (x := ?_) (n := ?_) ?_|(with_reducible show RowIs _ _ _;first|exact Int_row _|exact Str_row _)|with_reducible exact rfl|(refine z11 ?_;omega)|(refine z12 ?_;omega)|simp only [List.length_append,List.length_map,List.length_cons,List.length_nil,List.length_set,List.length_replicate]));(all_goals (fail_if_success (with_reducible show FZ _ _)));(all_goals (fail_if_success (with_reducible show List.contains _ _ = true)));(all_goals (fail_if_success (with_reducible show False)));(all_goals (fail_if_success (with_reducible show VSub _ _ _ _ _ _))))))
      | ((refine CallA.lend (im_in_c ?_ ?_ ?_) rfl ?_ ?_;rotate_left 3);(focus ((repeat' (first|simp only [z1,z2,z3,Nat.reduceEqDiff,Nat.reduceLT,not_false_eq_true]|exact z28|refine z29 ?_ ?_|exact z31|refine z32 ?_ ?_|refine z30 ?_|exact z33|refine z34 rfl ?_ ?_|refine z35 ?_|exact z13|exact z14|exact z15|exact z16|refine z17 ?_|refine z18 rfl ?_|refine z19 rfl ?_ ?_|(show lτ _ _ = some _;exact rfl)|exact z20 rfl rfl|refine z20 rfl ?_|refine z21 ?_|refine z23 ?_|exact z24|refine z25 ?_ rfl rfl ?_|refine z22 ?_|refine z26 ?_ rfl rfl ?_ ?_|refine z27 ?_ rfl rfl ?_ ?_ ?_|exact True.intro|exact z4 rfl|exact z5|exact z6|exact z7|exact z8|exact z9|exact z10|refine z36 ?_|refine z37 rfl ?_|exact z38|exact z39|refine z40 (xs := ?_) (ys := ?_) ?_ ?_|refine z41 (xs := ?_) (ys := ?_) ?_ ?_ ?_ ?_|refine z42 (xs := ?_) ?_|refine z43 (xs := ?_) ?_|refine z44 (x := ?_) (xs := ?_) ?_ ?_|refine RowsAre.rep (x := ?_) (n := ?_) ?_|(with_reducible show RowIs _ _ _;first|exact Int_row _|exact Str_row _)|with_reducible exact rfl|(refine z11 ?_;omega)|(refine z12 ?_;omega)|simp only [List.length_append,List.length_map,List.length_cons,List.length_nil,List.length_set,List.length_replicate]));(all_goals (fail_if_success (with_reducible show FZ _ _)));(all_goals (fail_if_success (with_reducible show List.contains _ _ = true)));(all_goals (fail_if_success (with_reducible show False)));(all_goals (fail_if_success (with_reducible show VSub _ _ _ _ _ _))))))))
    | ((with_reducible show CallL _ _ _ _);(first
      | ((refine CallL.gv0 (im_in_c ?_ ?_ ?_) ?_ ?_;rotate_left 3);(focus ((repeat' (first|simp only [z1,z2,z3,Nat.reduceEqDiff,Nat.reduceLT,not_false_eq_true]|exact z28|refine z29 ?_ ?_|exact z31|refine z32 ?_ ?_|refine z30 ?_|exact z33|refine z34 rfl ?_ ?_|refine z35 ?_|exact z13|exact z14|exact z15|exact z16|refine z17 ?_|refine z18 rfl ?_|refine z19 rfl ?_ ?_|(show lτ _ _ = some _;exact rfl)|exact z20 rfl rfl|refine z20 rfl ?_|refine z21 ?_|refine z23 ?_|exact z24|refine z25 ?_ rfl rfl ?_|refine z22 ?_|refine z26 ?_ rfl rfl ?_ ?_|refine z27 ?_ rfl rfl ?_ ?_ ?_|exact True.intro|exact z4 rfl|exact z5|exact z6|exact z7|exact z8|exact z9|exact z10|refine z36 ?_|refine z37 rfl ?_|exact z38|exact z39|refine z40 (xs := ?_) (ys := ?_) ?_ ?_|refine z41 (xs := ?_) (ys := ?_) ?_ ?_ ?_ ?_|refine z42 (xs := ?_) ?_|refine z43 (xs := ?_) ?_|refine z44 (x := ?_) (xs := ?_) ?_ ?_|refine RowsAre.rep (x := ?_) (n := ?_) ?_|(with_reducible show RowIs _ _ _;first|exact Int_row _|exact Str_row _)|with_reducible exact rfl|(refine z11 ?_;omega)|(refine z12 ?_;omega)|simp only [List.length_append,List.length_map,List.length_cons,List.length_nil,List.length_set,List.length_replicate]));(all_goals (fail_if_success (with_reducible show FZ _ _)));(all_goals (fail_if_success (with_reducible show List.contains _ _ = true)));(all_goals (fail_if_success (with_reducible show False)));(all_goals (fail_if_success (with_reducible show VSub _ _ _ _ _ _))))))))
    | ((with_reducible show EndK _ _ _ _ _ _ _);(first
      | ((first
      | (guard_hyp t0;refine EndK.eqv (vs := ?_) (f := fun x : Bool => .lit (.bool x)) ?_ (by first|exact .inr rfl|exact .inl rfl) ?_ ?_ ?_;rotate_left 2)
      | (guard_hyp t1;refine EndK.eqv (vs := ?_) (f := fun x : Bool => .lit (.bool x)) ?_ (by first|exact .inr rfl|exact .inl rfl) ?_ ?_ ?_;rotate_left 2)
      | (guard_hyp t2;refine EndK.eqv (vs := ?_) (f := fun x : Bool => .lit (.bool x)) ?_ (by first|exact .inr rfl|exact .inl rfl) ?_ ?_ ?_;rotate_left 2)
      ); (focus (simp only [go_sem, reduceCtorEq, Nat.reduceAdd, Nat.reduceSub, Nat.reduceMul, Nat.reduceLeDiff, Nat.reduceLT, Nat.reduceEqDiff]; exact rfl)); (focus (repeat' (first | simp only [z1, z2, z3, Nat.reduceEqDiff, Nat.reduceLT, not_false_eq_true] | exact z28 | refine z29 ?_ ?_ | exact z31 | refine z32 ?_ ?_ | refine z30 ?_ | exact z33 | refine z34 rfl ?_ ?_ | refine z35 ?_ | exact z13 | exact z14 | exact z15 | exact z16 | refine z17 ?_ | refine z18 rfl ?_ | refine z19 rfl ?_ ?_ | (show lτ _ _ = some _; exact rfl) | exact z20 rfl rfl | refine z20 rfl ?_ | refine z21 ?_ | refine z23 ?_ | exact z24 | refine z25 ?_ rfl rfl ?_ | refine z22 ?_ | refine z26 ?_ rfl rfl ?_ ?_ | refine z27 ?_ rfl rfl ?_ ?_ ?_ | exact True.intro | exact z4 rfl | exact z5 | exact z6 | exact z7 | exact z8 | exact z9 | exact z10 | refine z36 ?_ | refine z37 rfl ?_ | exact z38 | exact z39 | refine z40 (xs := ?_) (ys := ?_) ?_ ?_ | refine z41 (xs := ?_) (ys := ?_) ?_ ?_ ?_ ?_ | refine z42 (xs := ?_) ?_ | refine z43 (xs := ?_) ?_ | refine z44 (x := ?_) (xs := ?_) ?_ ?_ | refine RowsAre.rep (x := ?_) (n := ?_) ?_ | (with_reducible show RowIs _ _ _; first | exact Int_row _ | exact Str_row _) | with_reducible exact rfl | (refine z11 ?_; omega) | (refine z12 ?_; omega) | simp only [List.length_append, List.length_map, List.length_cons, List.length_nil, List.length_set, List.length_replicate]))))))
    | (refine h1 _ _ ?_;clear h1 K1)
    | refine And.intro ?_ ?_
    | ((first|with_reducible show (_ : Int) ≤ _|with_reducible show (_ : Int) < _|with_reducible show (_ : Int) = _|with_reducible show (_ : Nat) ≤ _|with_reducible show (_ : Nat) < _|with_reducible show (_ : Nat) = _|with_reducible show ¬ _|with_reducible show _ ≠ _|with_reducible show False);omega)
    | (intro h;(try simp only [decide_eq_true_eq,decide_eq_false_iff_not,Int.not_lt,Int.not_le,beq_iff_eq,bne_iff_ne,beq_eq_false_iff_ne,bne_eq_false_iff_eq,ne_eq,Bool.not_eq_true',Bool.not_eq_false',Decidable.not_not] at h);(try contradiction)))
  all_goals (try clear h1); all_goals (try clear K1); all_goals (try clear hK); all_goals (try clear K); all_goals (try dsimp only); all_goals (try simp only [Bool.not_eq_false', Bool.not_eq_true', decide_eq_true_eq, decide_eq_false_iff_not] at *); skip; all_goals (try clear im_in_c)
  all_goals first
    | omega
    | (simp only [List.length_cons,List.length_nil,Nat.reduceAdd];done)
    | (simp only [List.length_set,List.length_append,List.length_cons,List.length_nil,List.length_map,List.length_take,List.length_drop];omega)
    | (obtain ⟨x,_,rfl⟩ := List.mem_map.1 (by assumption);rfl)
    | (obtain ⟨x,_,rfl⟩ := List.mem_map.1 (List.mem_of_mem_take (by assumption));rfl)
    | (obtain ⟨x,_,rfl⟩ := List.mem_map.1 (List.mem_of_mem_drop (List.mem_of_mem_take (by assumption)));rfl)
    | (simp (disch := omega) only [wr_id];omega)
    | (guard_hyp t0;first|(rw [im_in];all_goals first|grind|(repeat' split) <;> first|rfl|grind))
    | (guard_hyp t1;first|(rw [im_isKey];all_goals first|grind|(repeat' split) <;> first|rfl|grind))
    | (guard_hyp t2;first|(rw [im_isVal];all_goals first|grind|(repeat' split) <;> first|rfl|grind))
    | grind)
theorem im_in_c : Sim_in_c := layU11.1
theorem im_isKey_c : Sim_isKey_c := layU11.2.1 im_in_c
theorem im_isVal_c : Sim_isVal_c := layU11.2.2 im_in_c
end Go.Proofs.Ytghkelfpomfadaa
end
section
namespace Go.Proofs.Ytghkelfpomfadaa
open Go.Ae
open Go.Ae renaming getR_eq → z1, getR_ne → z2, getR_nil → z3, lF_mk → z4, cont1 → z5, cont2a → z6, cont2b → z7, cont3a → z8, cont3b → z9, cont3c → z10, wr_up → z11, wr_dn → z12
open Go.Ae.VSub renaming any' → z13, same → z14, nilRd → z15, mtRd → z16, lit → z17, ptr' → z18, sl' → z19, slNil → z20, agg' → z21, tup' → z22, fn' → z23, rpSame → z24, rpF → z25, frz → z26, frzC → z27
open Go.Ae.LSub renaming nil' → z28, cons' → z29, mkR' → z30
open Go.Ae.SSub renaming nil' → z31, cons' → z32
open Go.Ae.HTell renaming nil' → z33, some' → z34, freshRows → z35
open Go.Ae.BSub renaming cells' → z36, own → z37
open Go.Ae.RowsAre renaming map → z38, nil → z39, app → z40, spl → z41, take → z42, drop → z43, cons → z44
open Go.Ae.CallA renaming gv0 → z45, lend → z46
set_option linter.unusedSimpArgs false
set_option linter.unusedVariables false
attribute [local irreducible] wr bitsOf VSub LSub SSub HTell BSub RowIs RowsAre Ent lF mkR
def im_pairsOk_1 (x : GTxnPair) : Bool :=
  ((!(im_isKey x.Key)) || (!(im_isVal x.Val)))
def im_keyOf (x : GTxnPair) : Int :=
  x.Key
def im_rising_TxnPair_f_im_keyOf_L1 (list : List GTxnPair) (i : Nat) : Fl (Bool) (Unit) :=
  if h0 : ((i : Int) < (list.length : Int)) then
      if ((im_keyOf (list.getD i default)) ≤ (im_keyOf (list.getD (wr .i64 ((i : Int) - 1)).toNat default))) then
        .ret false
      else 
        im_rising_TxnPair_f_im_keyOf_L1 list (i + 1)
  else .go ()
termination_by ((list.length : Int) - (i : Int)).toNat
decreasing_by all_goals omega
def im_rising_TxnPair_f_im_keyOf_K1 (list : List GTxnPair) (i : Nat) : Bool :=
  match im_rising_TxnPair_f_im_keyOf_L1 list i with
  | .ret rr => rr
  | .go q =>
    true
def im_rising_TxnPair_f_im_keyOf (list : List GTxnPair) : Bool :=
  let i : Nat := 1
  im_rising_TxnPair_f_im_keyOf_K1 list i
def slices_IndexFunc_TxnPair_f_im_pairsOk_1_L1 (s : List GTxnPair) (ix1 : Nat) : Fl (Int) (Unit) :=
  if h0 : ((ix1 : Int) < (s.length : Int)) then
      let i := (ix1 : Int)
      if ((im_pairsOk_1 (s.getD i.toNat default)) = true) then
        .ret i
      else 
        slices_IndexFunc_TxnPair_f_im_pairsOk_1_L1 s (ix1 + 1)
  else .go ()
termination_by ((s.length : Int) - (ix1 : Int)).toNat
decreasing_by all_goals omega
def slices_IndexFunc_TxnPair_f_im_pairsOk_1_K1 (s : List GTxnPair) (ix1 : Nat) : Int :=
  match slices_IndexFunc_TxnPair_f_im_pairsOk_1_L1 s ix1 with
  | .ret rr => rr
  | .go q =>
    (-1)
def slices_IndexFunc_TxnPair_f_im_pairsOk_1 (s : List GTxnPair) : Int :=
  let ix1 : Nat := 0
  slices_IndexFunc_TxnPair_f_im_pairsOk_1_K1 s ix1
def slices_ContainsFunc_TxnPair_f_im_pairsOk_1 (s : List GTxnPair) : Bool :=
  (decide ((slices_IndexFunc_TxnPair_f_im_pairsOk_1 s) ≥ 0))
def im_pairsOk (list : List GTxnPair) : Bool :=
  (((decide ((list.length : Int) ≤ 40)) && (im_rising_TxnPair_f_im_keyOf list)) && (!(slices_ContainsFunc_TxnPair_f_im_pairsOk_1 list)))
def Sim_pairsOk_1_c : Prop := ∀ (x : GTxnPair), Gives Try.prog 50 [.agg [.lit (.int .i64 x.Key), .lit (.int .i64 x.Val)]] (.lit (.bool (im_pairsOk_1 x)))
def Sim_keyOf_c : Prop := ∀ (x : GTxnPair), Gives Try.prog 52 [.agg [.lit (.int .i64 x.Key), .lit (.int .i64 x.Val)]] (.lit (.int .i64 (im_keyOf x)))
def Sim_rising_TxnPair_f_im_keyOf_c : Prop := ∀ (list : List GTxnPair) (hp0 : list.length ≤ 2147483648), Gives Try.prog 51 [.r (.rd 2 encGTxnPair list), .fn 52 []] (.lit (.bool (im_rising_TxnPair_f_im_keyOf list)))
def Sslices_IndexFunc_TxnPair_f_im_pairsOk_1_c : Prop := ∀ (s : List GTxnPair) (hp0 : s.length ≤ 2147483648), Gives Try.prog 70 [.r (.rd 2 encGTxnPair s), .fn 50 []] (.lit (.int .i64 (slices_IndexFunc_TxnPair_f_im_pairsOk_1 s)))
def Sslices_ContainsFunc_TxnPair_f_im_pairsOk_1_c : Prop := ∀ (s : List GTxnPair) (hp0 : s.length ≤ 2147483648), Gives Try.prog 53 [.r (.rd 2 encGTxnPair s), .fn 50 []] (.lit (.bool (slices_ContainsFunc_TxnPair_f_im_pairsOk_1 s)))
def Sim_pairsOk_c : Prop := ∀ (list : List GTxnPair) (hp0 : list.length ≤ 2147483648), Gives Try.prog 27 [.r (.rd 2 encGTxnPair list)] (.lit (.bool (im_pairsOk list)))
set_option maxRecDepth 10000 in
set_option maxHeartbeats 12000000 in
theorem layU31 : (Sim_pairsOk_1_c) ∧ (Sim_keyOf_c) ∧ (Sim_keyOf_c → Sim_rising_TxnPair_f_im_keyOf_c) ∧ (Sim_pairsOk_1_c → Sslices_IndexFunc_TxnPair_f_im_pairsOk_1_c) ∧ (Sslices_IndexFunc_TxnPair_f_im_pairsOk_1_c → Sslices_ContainsFunc_TxnPair_f_im_pairsOk_1_c) ∧ (Sim_rising_TxnPair_f_im_keyOf_c → Sslices_ContainsFunc_TxnPair_f_im_pairsOk_1_c → Sim_pairsOk_c) := by
  refine ⟨fun x => have t0 := tg 0; Does.goR Try.func50 Try.ntmps50 Try.results50 rfl (Nat.zero_le _) rfl ?_,
    fun x => have t1 := tg 1; Does.goR Try.func52 Try.ntmps52 Try.results52 rfl (Nat.zero_le _) rfl ?_,
    fun im_keyOf_c list hp0 => have t2 := tg 2; Does.goR Try.func51 Try.ntmps51 Try.results51 rfl (Nat.zero_le _) rfl ?_,
    fun im_pairsOk_1_c s hp0 => have t3 := tg 3; Does.goR Try.func70 Try.ntmps70 Try.results70 rfl (Nat.zero_le _) rfl ?_,
    fun slices_IndexFunc_TxnPair_f_im_pairsOk_1_c s hp0 => have t4 := tg 4; Does.goR Try.func53 Try.ntmps53 Try.results53 rfl (Nat.zero_le _) rfl ?_,
    fun im_rising_TxnPair_f_im_keyOf_c slices_ContainsFunc_TxnPair_f_im_pairsOk_1_c list hp0 => have t5 := tg 5; Does.goR Try.func27 Try.ntmps27 Try.results27 rfl (Nat.zero_le _) rfl ?_⟩
  all_goals (
  simp only [argR, Nat.reduceAdd]
  repeat' (first
    | ((with_reducible show Aft _ _ _ _);(first|refine Aft.t ?_|refine Aft.q ?_|refine Aft.b ?_|refine Aft.e ?_|refine Aft.tr ?_|refine Aft.br ?_|refine Aft.qr ?_|refine Aft.tx ?_|refine Aft.bx ?_|refine Aft.by' rfl ?_|refine Aft.qx ?_))
    | ((with_reducible show RegS _ _ _ _ _ _);(first
      | (refine RegS.nil (hK _ _ ?_);clear hK K)
      | ((first|refine RegS.stepN fun K1 h1 => ?_|refine RegS.step fun K1 h1 => ?_);simp only [go_sem,reduceCtorEq,Nat.reduceAdd,Nat.reduceSub,Nat.reduceMul,Nat.reduceLeDiff,Nat.reduceLT,Nat.reduceEqDiff])))
    | ((with_reducible show TreeS _ _ _ _ _ _ _ _);(first
      | (refine TreeS.nil (hK _ _ ?_);clear hK K)
      | (refine TreeS.fork ?_ ?_)
      | ((first|refine TreeS.stepN rfl fun K1 h1 => ?_|refine TreeS.step fun K1 h1 => ?_);simp only [go_sem,reduceCtorEq,Nat.reduceAdd,Nat.reduceSub,Nat.reduceMul,Nat.reduceLeDiff,Nat.reduceLT,Nat.reduceEqDiff])))
    | ((with_reducible show QuietS _ _ _ _ _ _);(first
      | (refine QuietS.nil (hK _ _ ?_);clear hK K)
      | ((first|refine QuietS.stepN fun K1 h1 => ?_|refine QuietS.step fun K1 h1 => ?_);simp only [go_sem,reduceCtorEq,Nat.reduceAdd,Nat.reduceSub,Nat.reduceMul,Nat.reduceLeDiff,Nat.reduceLT,Nat.reduceEqDiff])))
    | ((with_reducible show Tri _ _ _ _ _ _);(first
      | (refine Tri.regSeq fun K hK => RegS.run ?_)
      | (refine Tri.regA fun K hK => ?_)
      | (refine Tri.cond (b := ?_) ?_ ?_ ?_;rotate_left 1;focus (simp only [ev,z1,z2,Nat.reduceEqDiff,Nat.reduceLT,not_false_eq_true];exact rfl))
      | refine Tri.skipA ?_
      | refine Tri.exitA ?_
      | refine Tri.retA ?_
      | refine Tri.block ?_
      | (guard_hyp t2;(first|(refine Tri.treeSeq 4 rfl mixedP false [0] [] (.op 0 0 (.op 1 0 (.op 2 0 (.op 3 0 (.op 6 0 (.op 7 0 (.op 8 0 (.op 9 0 (.op 10 0 (.op 4 1 (.op 11 1 (.op 5 2 (.op 12 2 (.op 13 0 .nil)))))))))))))) (by kernel_rfl) fun K hK => ?_;simp only [ballD,ballOf,ballX,cellIds,Heap.at,List.getD_cons_zero,List.getD_cons_succ,List.nil_append,List.cons_append,idOf,z1,z2,Nat.reduceEqDiff,Nat.reduceLT,not_false_eq_true])|(refine Tri.treeA 4 rfl mixedP false [0] [] (.op 0 0 (.op 1 0 (.op 2 0 (.op 3 0 (.op 6 0 (.op 7 0 (.op 8 0 (.op 9 0 (.op 10 0 (.op 4 1 (.op 11 1 (.op 5 2 (.op 12 2 (.op 13 0 .nil)))))))))))))) (by kernel_rfl) fun K hK => ?_;simp only [ballD,ballOf,ballX,cellIds,Heap.at,List.getD_cons_zero,List.getD_cons_succ,List.nil_append,List.cons_append,idOf,z1,z2,Nat.reduceEqDiff,Nat.reduceLT,not_false_eq_true]) ))
      | ((with_reducible show Tri _ _ (Code.loop _) _ _ _);(first
      | (guard_hyp t2;refine Tri.loopR (ι := Nat) 2 rfl (fun j => mkR 26 [(0,.r (.rd 2 encGTxnPair list)),(1,.fn 52 []),(5,.lit (.int .i64 (j : Int)))]) (fun j => []) (fun j => im_rising_TxnPair_f_im_keyOf_K1 list j = im_rising_TxnPair_f_im_keyOf list ∧ ((j : Int) ≤ (list.length : Int) ∨ j = 1) ∧ 1 ≤ j) (fun j => ((list.length : Int) - (j : Int)).toNat) 1 (Ent.places [] _ (by simp only [go_sem,reduceCtorEq,Nat.reduceAdd,Nat.reduceSub,Nat.reduceMul,Nat.reduceLeDiff,Nat.reduceLT,Nat.reduceEqDiff];rfl) rfl rfl (Nat.zero_le _) ?_ ?_) ?_ ?_;rotate_left 3;(focus (rintro i ⟨hM,hI⟩;(try dsimp only at hM hI)));rotate_right 3)
      | (guard_hyp t3;refine Tri.loopR (ι := Nat) 2 rfl (fun j => mkR 19 [(0,.r (.rd 2 encGTxnPair s)),(1,.fn 50 []),(6,.r (.rd 2 encGTxnPair s)),(7,.lit (.int .i64 (s.length : Int))),(8,.lit (.int .i64 (j : Int)))]) (fun j => []) (fun j => slices_IndexFunc_TxnPair_f_im_pairsOk_1_K1 s j = slices_IndexFunc_TxnPair_f_im_pairsOk_1 s ∧ (j : Int) ≤ (s.length : Int)) (fun j => ((s.length : Int) - (j : Int)).toNat) 0 (Ent.places [] _ (by simp only [go_sem,reduceCtorEq,Nat.reduceAdd,Nat.reduceSub,Nat.reduceMul,Nat.reduceLeDiff,Nat.reduceLT,Nat.reduceEqDiff];rfl) rfl rfl (Nat.zero_le _) ?_ ?_) ?_ ?_;rotate_left 3;(focus (rintro ix1 ⟨hM,hI⟩;(try dsimp only at hM hI)));rotate_right 3)
      ); (focus (repeat' (first | simp only [z1, z2, z3, Nat.reduceEqDiff, Nat.reduceLT, not_false_eq_true] | exact z28 | refine z29 ?_ ?_ | exact z31 | refine z32 ?_ ?_ | refine z30 ?_ | exact z33 | refine z34 rfl ?_ ?_ | refine z35 ?_ | exact z13 | exact z14 | exact z15 | exact z16 | refine z17 ?_ | refine z18 rfl ?_ | refine z19 rfl ?_ ?_ | (show lτ _ _ = some _; exact rfl) | exact z20 rfl rfl | refine z20 rfl ?_ | refine z21 ?_ | refine z23 ?_ | exact z24 | refine z25 ?_ rfl rfl ?_ | refine z22 ?_ | refine z26 ?_ rfl rfl ?_ ?_ | refine z27 ?_ rfl rfl ?_ ?_ ?_ | exact True.intro | exact z4 rfl | exact z5 | exact z6 | exact z7 | exact z8 | exact z9 | exact z10 | refine z36 ?_ | refine z37 rfl ?_ | exact z38 | exact z39 | refine z40 (xs := ?_) (ys := ?_) ?_ ?_ | refine z41 (xs := ?_) (ys := ?_) ?_ ?_ ?_ ?_ | refine z42 (xs := ?_) ?_ | refine z43 (xs := ?_) ?_ | refine z44 (x := ?_) (xs := ?_) ?_ ?_ | refine RowsAre.rep (x := ?_) (n := ?_) ?_ | (with_reducible show RowIs _ _ _; first | exact Int_row _ | exact Str_row _) | (with_reducible show RowIs _ _ _; first | exact GTxnPair_row _ | exact GTxnPair_mk _ _) | with_reducible exact rfl | (refine z11 ?_; omega) | (refine z12 ?_; omega) | simp only [List.length_append, List.length_map, List.length_cons, List.length_nil, List.length_set, List.length_replicate]))); (focus (repeat' (first | simp only [z1, z2, z3, Nat.reduceEqDiff, Nat.reduceLT, not_false_eq_true] | exact z28 | refine z29 ?_ ?_ | exact z31 | refine z32 ?_ ?_ | refine z30 ?_ | exact z33 | refine z34 rfl ?_ ?_ | refine z35 ?_ | exact z13 | exact z14 | exact z15 | exact z16 | refine z17 ?_ | refine z18 rfl ?_ | refine z19 rfl ?_ ?_ | (show lτ _ _ = some _; exact rfl) | exact z20 rfl rfl | refine z20 rfl ?_ | refine z21 ?_ | refine z23 ?_ | exact z24 | refine z25 ?_ rfl rfl ?_ | refine z22 ?_ | refine z26 ?_ rfl rfl ?_ ?_ | refine z27 ?_ rfl rfl ?_ ?_ ?_ | exact True.intro | exact z4 rfl | exact z5 | exact z6 | exact z7 | exact z8 | exact z9 | exact z10 | refine z36 ?_ | refine z37 rfl ?_ | exact z38 | exact z39 | refine z40 (xs := ?_) (ys := ?_) ?_ ?_ | refine z41 (xs := ?_) (ys := ?_) ?_ ?_ ?_ ?_ | refine z42 (xs := ?_) ?_ | refine z43 (xs := ?_) ?_ | refine z44 (x := ?_) (xs := ?_) ?_ ?_ | refine RowsAre.rep (x := ?_) (n := ?_) ?_ | (with_reducible show RowIs _ _ _; first | exact Int_row _ | exact Str_row _) | (with_reducible show RowIs _ _ _; first | exact GTxnPair_row _ | exact GTxnPair_mk _ _) | with_reducible exact rfl | (refine z11 ?_; omega) | (refine z12 ?_; omega) | simp only [List.length_append, List.length_map, List.length_cons, List.length_nil, List.length_set, List.length_replicate]))); rotate_left 1)
      | refine Tri.seq ?_))
    | ((with_reducible show CallA _ _ _ _ _);(first
      | ((first
      | (refine z45 (im_isVal_c ?_) ?_ ?_;rotate_left 1)
      | (refine z45 (im_isKey_c ?_) ?_ ?_;rotate_left 1)
      | (refine z45 (im_keyOf_c ⟨?_,?_⟩) ?_ ?_;rotate_left 2)
      | (refine z45 (im_pairsOk_1_c ⟨?_,?_⟩) ?_ ?_;rotate_left 2)
      | (refine z45 (slices_IndexFunc_TxnPair_f_im_pairsOk_1_c ?_ ?_) ?_ ?_;rotate_left 2)
      | (refine z45 (im_rising_TxnPair_f_im_keyOf_c ?_ ?_) ?_ ?_;rotate_left 2)
      | (refine z45 (slices_ContainsFunc_TxnPair_f_im_pairsOk_1_c ?_ ?_) ?_ ?_;rotate_left 2)
      ); (focus ((repeat' (first | simp only [z1, z2, z3, Nat.reduceEqDiff, Nat.reduceLT, not_false_eq_true] | exact z28 | refine z29 ?_ ?_ | exact z31 | refine z32 ?_ ?_ | refine z30 ?_ | exact z33 | refine z34 rfl ?_ ?_ | refine z35 ?_ | exact z13 | exact z14 | exact z15 | exact z16 | refine z17 ?_ | refine z18 rfl ?_ | refine z19 rfl ?_ ?_ | (show lτ _ _ = some _; exact rfl) | exact z20 rfl rfl | refine z20 rfl ?_ | refine z21 ?_ | refine z23 ?_ | exact z24 | refine z25 ?_ rfl rfl ?_ | refine z22 ?_ | refine z26 ?_ rfl rfl ?_ ?_ | refine z27 ?_ rfl rfl ?_ ?_ ?_ | exact True.intro | exact z4 rfl | exact z5 | exact z6 | exact z7 | exact z8 | exact z9 | exact z10 | refine z36 ?_ | refine z37 rfl ?_ | exact z38 | exact z39 | refine z40 (xs := ?_) (ys := ?_) ?_ ?_ | refine z41 (xs := ?_) (ys := ?_) ?_ ?_ ?_ ?_ | refine z42 (xs := ?_) ?_ | refine z43 (xs := ?_) ?_ | refine z44 (x := ?_) (xs := ?_) ?_ ?_ | refine RowsAre.rep (x := ?_) (n := ?_) ?_ | (with_reducible show RowIs _ _ _; first | exact Int_row _ | exact Str_row _) | (with_reducible show RowIs _ _ _; first | exact GTxnPair_row _ | exact GTxnPair_mk _ _) | with_reducible exact rfl | (refine z11 ?_; omega) | (refine z12 ?_; omega) | simp only [List.length_append, List.length_map, List.length_cons, List.length_nil, List.length_set, List.length_replicate])); (all_goals (fail_if_success (with_reducible show FZ _ _))); (all_goals (fail_if_success (with_reducible show List.contains _ _ = true))); (all_goals (fail_if_success (with_reducible show False))); (all_goals (fail_if_success (with_reducible show VSub _ _ _ _ _ _))))))
      | ((first
      | (refine z46 (im_isVal_c ?_) rfl ?_ ?_;rotate_left 1)
      | (refine z46 (im_isKey_c ?_) rfl ?_ ?_;rotate_left 1)
      | (refine z46 (im_keyOf_c ⟨?_,?_⟩) rfl ?_ ?_;rotate_left 2)
      | (refine z46 (im_pairsOk_1_c ⟨?_,?_⟩) rfl ?_ ?_;rotate_left 2)
      | (refine z46 (slices_IndexFunc_TxnPair_f_im_pairsOk_1_c ?_ ?_) rfl ?_ ?_;rotate_left 2)
      | (refine z46 (im_rising_TxnPair_f_im_keyOf_c ?_ ?_) rfl ?_ ?_;rotate_left 2)
      | (refine z46 (slices_ContainsFunc_TxnPair_f_im_pairsOk_1_c ?_ ?_) rfl ?_ ?_;rotate_left 2)
      ); (focus ((repeat' (first | simp only [z1, z2, z3, Nat.reduceEqDiff, Nat.reduceLT, not_false_eq_true] | exact z28 | refine z29 ?_ ?_ | exact z31 | refine z32 ?_ ?_ | refine z30 ?_ | exact z33 | refine z34 rfl ?_ ?_ | refine z35 ?_ | exact z13 | exact z14 | exact z15 | exact z16 | refine z17 ?_ | refine z18 rfl ?_ | refine z19 rfl ?_ ?_ | (show lτ _ _ = some _; exact rfl) | exact z20 rfl rfl | refine z20 rfl ?_ | refine z21 ?_ | refine z23 ?_ | exact z24 | refine z25 ?_ rfl rfl ?_ | refine z22 ?_ | refine z26 ?_ rfl rfl ?_ ?_ | refine z27 ?_ rfl rfl ?_ ?_ ?_ | exact True.intro | exact z4 rfl | exact z5 | exact z6 | exact z7 | exact z8 | exact z9 | exact z10 | refine z36 ?_ | refine z37 rfl ?_ | exact z38 | exact z39 | refine z40 (xs := ?_) (ys := ?_) ?_ ?_ | refine z41 (xs := ?_) (ys := ?_) ?_ ?_ ?_ ?_ | refine z42 (xs := ?_) ?_ | refine z43 (xs := ?_) ?_ | refine z44 (x := ?_) (xs := ?_) ?_ ?_ | refine RowsAre.rep (x := ?_) (n := ?_) ?_ | (with_reducible show RowIs _ _ _; first | exact Int_row _ | exact Str_row _) | (with_reducible show RowIs _ _ _; first | exact GTxnPair_row _ | exact GTxnPair_mk _ _) | with_reducible exact rfl | (refine z11 ?_; omega) | (refine z12 ?_; omega) | simp only [List.length_append, List.length_map, List.length_cons, List.length_nil, List.length_set, List.length_replicate])); (all_goals (fail_if_success (with_reducible show FZ _ _))); (all_goals (fail_if_success (with_reducible show List.contains _ _ = true))); (all_goals (fail_if_success (with_reducible show False))); (all_goals (fail_if_success (with_reducible show VSub _ _ _ _ _ _))))))))
    | ((with_reducible show CallL _ _ _ _);(first
      | ((first
      | (refine CallL.gv0 (im_isVal_c ?_) ?_ ?_;rotate_left 1)
      | (refine CallL.gv0 (im_isKey_c ?_) ?_ ?_;rotate_left 1)
      | (refine CallL.gv0 (im_keyOf_c ⟨?_,?_⟩) ?_ ?_;rotate_left 2)
      | (refine CallL.gv0 (im_pairsOk_1_c ⟨?_,?_⟩) ?_ ?_;rotate_left 2)
      | (refine CallL.gv0 (slices_IndexFunc_TxnPair_f_im_pairsOk_1_c ?_ ?_) ?_ ?_;rotate_left 2)
      | (refine CallL.gv0 (im_rising_TxnPair_f_im_keyOf_c ?_ ?_) ?_ ?_;rotate_left 2)
      | (refine CallL.gv0 (slices_ContainsFunc_TxnPair_f_im_pairsOk_1_c ?_ ?_) ?_ ?_;rotate_left 2)
      ); (focus ((repeat' (first | simp only [z1, z2, z3, Nat.reduceEqDiff, Nat.reduceLT, not_false_eq_true] | exact z28 | refine z29 ?_ ?_ | exact z31 | refine z32 ?_ ?_ | refine z30 ?_ | exact z33 | refine z34 rfl ?_ ?_ | refine z35 ?_ | exact z13 | exact z14 | exact z15 | exact z16 | refine z17 ?_ | refine z18 rfl ?_ | refine z19 rfl ?_ ?_ | (show lτ _ _ = some _; exact rfl) | exact z20 rfl rfl | refine z20 rfl ?_ | refine z21 ?_ | refine z23 ?_ | exact z24 | refine z25 ?_ rfl rfl ?_ | refine z22 ?_ | refine z26 ?_ rfl rfl ?_ ?_ | refine z27 ?_ rfl rfl ?_ ?_ ?_ | exact True.intro | exact z4 rfl | exact z5 | exact z6 | exact z7 | exact z8 | exact z9 | exact z10 | refine z36 ?_ | refine z37 rfl ?_ | exact z38 | exact z39 | refine z40 (xs := ?_) (ys := ?_) ?_ ?_ | refine z41 (xs := ?_) (ys := ?_) ?_ ?_ ?_ ?_ | refine z42 (xs := ?_) ?_ | refine z43 (xs := ?_) ?_ | refine z44 (x := ?_) (xs := ?_) ?_ ?_ | refine RowsAre.rep (x := ?_) (n := ?_) ?_ | (with_reducible show RowIs _ _ _; first | exact Int_row _ | exact Str_row _) | (with_reducible show RowIs _ _ _; first | exact GTxnPair_row _ | exact GTxnPair_mk _ _) | with_reducible exact rfl | (refine z11 ?_; omega) | (refine z12 ?_; omega) | simp only [List.length_append, List.length_map, List.length_cons, List.length_nil, List.length_set, List.length_replicate])); (all_goals (fail_if_success (with_reducible show FZ _ _))); (all_goals (fail_if_success (with_reducible show List.contains _ _ = true))); (all_goals (fail_if_success (with_reducible show False))); (all_goals (fail_if_success (with_reducible show VSub _ _ _ _ _ _))))))))
    | ((with_reducible show BackG _ _);(first
      | ((first
      | (guard_hyp t2;refine backR 2 (i + 1) (Ent.places [] _ (by simp only [go_sem,reduceCtorEq,Nat.reduceAdd,Nat.reduceSub,Nat.reduceMul,Nat.reduceLeDiff,Nat.reduceLT,Nat.reduceEqDiff];rfl) rfl rfl (Nat.zero_le _) ?_ ?_) ?_ ?_;rotate_left 3;(focus ((try dsimp only);omega));rotate_right 3)
      | (guard_hyp t3;refine backR 2 (ix1 + 1) (Ent.places [] _ (by simp only [go_sem,reduceCtorEq,Nat.reduceAdd,Nat.reduceSub,Nat.reduceMul,Nat.reduceLeDiff,Nat.reduceLT,Nat.reduceEqDiff];rfl) rfl rfl (Nat.zero_le _) ?_ ?_) ?_ ?_;rotate_left 3;(focus ((try dsimp only);omega));rotate_right 3)
      ); (focus (repeat' (first | simp only [z1, z2, z3, Nat.reduceEqDiff, Nat.reduceLT, not_false_eq_true] | exact z28 | refine z29 ?_ ?_ | exact z31 | refine z32 ?_ ?_ | refine z30 ?_ | exact z33 | refine z34 rfl ?_ ?_ | refine z35 ?_ | exact z13 | exact z14 | exact z15 | exact z16 | refine z17 ?_ | refine z18 rfl ?_ | refine z19 rfl ?_ ?_ | (show lτ _ _ = some _; exact rfl) | exact z20 rfl rfl | refine z20 rfl ?_ | refine z21 ?_ | refine z23 ?_ | exact z24 | refine z25 ?_ rfl rfl ?_ | refine z22 ?_ | refine z26 ?_ rfl rfl ?_ ?_ | refine z27 ?_ rfl rfl ?_ ?_ ?_ | exact True.intro | exact z4 rfl | exact z5 | exact z6 | exact z7 | exact z8 | exact z9 | exact z10 | refine z36 ?_ | refine z37 rfl ?_ | exact z38 | exact z39 | refine z40 (xs := ?_) (ys := ?_) ?_ ?_ | refine z41 (xs := ?_) (ys := ?_) ?_ ?_ ?_ ?_ | refine z42 (xs := ?_) ?_ | refine z43 (xs := ?_) ?_ | refine z44 (x := ?_) (xs := ?_) ?_ ?_ | refine RowsAre.rep (x := ?_) (n := ?_) ?_ | (with_reducible show RowIs _ _ _; first | exact Int_row _ | exact Str_row _) | (with_reducible show RowIs _ _ _; first | exact GTxnPair_row _ | exact GTxnPair_mk _ _) | with_reducible exact rfl | (refine z11 ?_; omega) | (refine z12 ?_; omega) | simp only [List.length_append, List.length_map, List.length_cons, List.length_nil, List.length_set, List.length_replicate]))); (focus (repeat' (first | simp only [z1, z2, z3, Nat.reduceEqDiff, Nat.reduceLT, not_false_eq_true] | exact z28 | refine z29 ?_ ?_ | exact z31 | refine z32 ?_ ?_ | refine z30 ?_ | exact z33 | refine z34 rfl ?_ ?_ | refine z35 ?_ | exact z13 | exact z14 | exact z15 | exact z16 | refine z17 ?_ | refine z18 rfl ?_ | refine z19 rfl ?_ ?_ | (show lτ _ _ = some _; exact rfl) | exact z20 rfl rfl | refine z20 rfl ?_ | refine z21 ?_ | refine z23 ?_ | exact z24 | refine z25 ?_ rfl rfl ?_ | refine z22 ?_ | refine z26 ?_ rfl rfl ?_ ?_ | refine z27 ?_ rfl rfl ?_ ?_ ?_ | exact True.intro | exact z4 rfl | exact z5 | exact z6 | exact z7 | exact z8 | exact z9 | exact z10 | refine z36 ?_ | refine z37 rfl ?_ | exact z38 | exact z39 | refine z40 (xs := ?_) (ys := ?_) ?_ ?_ | refine z41 (xs := ?_) (ys := ?_) ?_ ?_ ?_ ?_ | refine z42 (xs := ?_) ?_ | refine z43 (xs := ?_) ?_ | refine z44 (x := ?_) (xs := ?_) ?_ ?_ | refine RowsAre.rep (x := ?_) (n := ?_) ?_ | (with_reducible show RowIs _ _ _; first | exact Int_row _ | exact Str_row _) | (with_reducible show RowIs _ _ _; first | exact GTxnPair_row _ | exact GTxnPair_mk _ _) | with_reducible exact rfl | (refine z11 ?_; omega) | (refine z12 ?_; omega) | simp only [List.length_append, List.length_map, List.length_cons, List.length_nil, List.length_set, List.length_replicate]))))
      | ((first
      | (guard_hyp t2;refine backR 2 (i + 1) (Ent.places [] _ (by simp only [go_sem,reduceCtorEq,Nat.reduceAdd,Nat.reduceSub,Nat.reduceMul,Nat.reduceLeDiff,Nat.reduceLT,Nat.reduceEqDiff];rfl) rfl rfl (Nat.zero_le _) ?_ ?_) ?_ ?_)
      | (guard_hyp t3;refine backR 2 (ix1 + 1) (Ent.places [] _ (by simp only [go_sem,reduceCtorEq,Nat.reduceAdd,Nat.reduceSub,Nat.reduceMul,Nat.reduceLeDiff,Nat.reduceLT,Nat.reduceEqDiff];rfl) rfl rfl (Nat.zero_le _) ?_ ?_) ?_ ?_)
      ); (focus (repeat' (first | simp only [z1, z2, z3, Nat.reduceEqDiff, Nat.reduceLT, not_false_eq_true] | exact z28 | refine z29 ?_ ?_ | exact z31 | refine z32 ?_ ?_ | refine z30 ?_ | exact z33 | refine z34 rfl ?_ ?_ | refine z35 ?_ | exact z13 | exact z14 | exact z15 | exact z16 | refine z17 ?_ | refine z18 rfl ?_ | refine z19 rfl ?_ ?_ | (show lτ _ _ = some _; exact rfl) | exact z20 rfl rfl | refine z20 rfl ?_ | refine z21 ?_ | refine z23 ?_ | exact z24 | refine z25 ?_ rfl rfl ?_ | refine z22 ?_ | refine z26 ?_ rfl rfl ?_ ?_ | refine z27 ?_ rfl rfl ?_ ?_ ?_ | exact True.intro | exact z4 rfl | exact z5 | exact z6 | exact z7 | exact z8 | exact z9 | exact z10 | refine z36 ?_ | refine z37 rfl ?_ | exact z38 | exact z39 | refine z40 (xs := ?_) (ys := ?_) ?_ ?_ | refine z41 (xs := ?_) (ys := ?_) ?_ ?_ ?_ ?_ | refine z42 (xs := ?_) ?_ | refine z43 (xs := ?_) ?_ | refine z44 (x := ?_) (xs := ?_) ?_ ?_ | refine RowsAre.rep (x := ?_) (n := ?_) ?_ | (with_reducible show RowIs _ _ _; first | exact Int_row _ | exact Str_row _) | (with_reducible show RowIs _ _ _; first | exact GTxnPair_row _ | exact GTxnPair_mk _ _) | with_reducible exact rfl | (refine z11 ?_; omega) | (refine z12 ?_; omega) | simp only [List.length_append, List.length_map, List.length_cons, List.length_nil, List.length_set, List.length_replicate]))); (focus (repeat' (first | simp only [z1, z2, z3, Nat.reduceEqDiff, Nat.reduceLT, not_false_eq_true] | exact z28 | refine z29 ?_ ?_ | exact z31 | refine z32 ?_ ?_ | refine z30 ?_ | exact z33 | refine z34 rfl ?_ ?_ | refine z35 ?_ | exact z13 | exact z14 | exact z15 | exact z16 | refine z17 ?_ | refine z18 rfl ?_ | refine z19 rfl ?_ ?_ | (show lτ _ _ = some _; exact rfl) | exact z20 rfl rfl | refine z20 rfl ?_ | refine z21 ?_ | refine z23 ?_ | exact z24 | refine z25 ?_ rfl rfl ?_ | refine z22 ?_ | refine z26 ?_ rfl rfl ?_ ?_ | refine z27 ?_ rfl rfl ?_ ?_ ?_ | exact True.intro | exact z4 rfl | exact z5 | exact z6 | exact z7 | exact z8 | exact z9 | exact z10 | refine z36 ?_ | refine z37 rfl ?_ | exact z38 | exact z39 | refine z40 (xs := ?_) (ys := ?_) ?_ ?_ | refine z41 (xs := ?_) (ys := ?_) ?_ ?_ ?_ ?_ | refine z42 (xs := ?_) ?_ | refine z43 (xs := ?_) ?_ | refine z44 (x := ?_) (xs := ?_) ?_ ?_ | refine RowsAre.rep (x := ?_) (n := ?_) ?_ | (with_reducible show RowIs _ _ _; first | exact Int_row _ | exact Str_row _) | (with_reducible show RowIs _ _ _; first | exact GTxnPair_row _ | exact GTxnPair_mk _ _) | with_reducible exact rfl | (refine z11 ?_; omega) | (refine z12 ?_; omega) | simp only [List.length_append, List.length_map, List.length_cons, List.length_nil, List.length_set, List.length_replicate]))); rotate_left 1; (focus ((try dsimp only); first | omega | (simp only [List.length_set, List.length_append, List.length_cons, List.length_nil]; omega))))))
    | ((with_reducible show EndK _ _ _ _ _ _ _);(first
      | ((first
      | (guard_hyp t0;refine EndK.eqv (vs := ?_) (f := fun x : Bool => .lit (.bool x)) ?_ (by first|exact .inr rfl|exact .inl rfl) ?_ ?_ ?_;rotate_left 2)
      | (guard_hyp t1;refine EndK.eqv (vs := ?_) (f := fun x : Int => .lit (.int .i64 x)) ?_ (by first|exact .inr rfl|exact .inl rfl) ?_ ?_ ?_;rotate_left 2)
      | (guard_hyp t2;refine EndK.eqv (vs := ?_) (f := fun x : Bool => .lit (.bool x)) ?_ (by first|exact .inr rfl|exact .inl rfl) ?_ ?_ ?_;rotate_left 2)
      | (guard_hyp t3;refine EndK.eqv (vs := ?_) (f := fun x : Int => .lit (.int .i64 x)) ?_ (by first|exact .inr rfl|exact .inl rfl) ?_ ?_ ?_;rotate_left 2)
      | (guard_hyp t4;refine EndK.eqv (vs := ?_) (f := fun x : Bool => .lit (.bool x)) ?_ (by first|exact .inr rfl|exact .inl rfl) ?_ ?_ ?_;rotate_left 2)
      | (guard_hyp t5;refine EndK.eqv (vs := ?_) (f := fun x : Bool => .lit (.bool x)) ?_ (by first|exact .inr rfl|exact .inl rfl) ?_ ?_ ?_;rotate_left 2)
      ); (focus (simp only [go_sem, reduceCtorEq, Nat.reduceAdd, Nat.reduceSub, Nat.reduceMul, Nat.reduceLeDiff, Nat.reduceLT, Nat.reduceEqDiff]; exact rfl)); (focus (repeat' (first | simp only [z1, z2, z3, Nat.reduceEqDiff, Nat.reduceLT, not_false_eq_true] | exact z28 | refine z29 ?_ ?_ | exact z31 | refine z32 ?_ ?_ | refine z30 ?_ | exact z33 | refine z34 rfl ?_ ?_ | refine z35 ?_ | exact z13 | exact z14 | exact z15 | exact z16 | refine z17 ?_ | refine z18 rfl ?_ | refine z19 rfl ?_ ?_ | (show lτ _ _ = some _; exact rfl) | exact z20 rfl rfl | refine z20 rfl ?_ | refine z21 ?_ | refine z23 ?_ | exact z24 | refine z25 ?_ rfl rfl ?_ | refine z22 ?_ | refine z26 ?_ rfl rfl ?_ ?_ | refine z27 ?_ rfl rfl ?_ ?_ ?_ | exact True.intro | exact z4 rfl | exact z5 | exact z6 | exact z7 | exact z8 | exact z9 | exact z10 | refine z36 ?_ | refine z37 rfl ?_ | exact z38 | exact z39 | refine z40 (xs := ?_) (ys := ?_) ?_ ?_ | refine z41 (xs := ?_) (ys := ?_) ?_ ?_ ?_ ?_ | refine z42 (xs := ?_) ?_ | refine z43 (xs := ?_) ?_ | refine z44 (x := ?_) (xs := ?_) ?_ ?_ | refine RowsAre.rep (x := ?_) (n := ?_) ?_ | (with_reducible show RowIs _ _ _; first | exact Int_row _ | exact Str_row _) | (with_reducible show RowIs _ _ _; first | exact GTxnPair_row _ | exact GTxnPair_mk _ _) | with_reducible exact rfl | (refine z11 ?_; omega) | (refine z12 ?_; omega) | simp only [List.length_append, List.length_map, List.length_cons, List.length_nil, List.length_set, List.length_replicate]))))))
    | (refine h1 _ _ ?_;clear h1 K1)
    | (with_reducible refine GTxnPair_ex _ _ ?_)
    | refine And.intro ?_ ?_
    | ((first|with_reducible show (_ : Int) ≤ _|with_reducible show (_ : Int) < _|with_reducible show (_ : Int) = _|with_reducible show (_ : Nat) ≤ _|with_reducible show (_ : Nat) < _|with_reducible show (_ : Nat) = _|with_reducible show ¬ _|with_reducible show _ ≠ _|with_reducible show False);omega)
    | (intro h;(try simp only [decide_eq_true_eq,decide_eq_false_iff_not,Int.not_lt,Int.not_le,beq_iff_eq,bne_iff_ne,beq_eq_false_iff_ne,bne_eq_false_iff_eq,ne_eq,Bool.not_eq_true',Bool.not_eq_false',Decidable.not_not] at h);(try contradiction)))
  all_goals (try clear h1); all_goals (try clear K1); all_goals (try clear hK); all_goals (try clear K); all_goals (try dsimp only); all_goals (try simp only [Bool.not_eq_false', Bool.not_eq_true', decide_eq_true_eq, decide_eq_false_iff_not] at *); all_goals (try simp only [GTxnPair_eta] at *); all_goals (try clear im_keyOf_c); all_goals (try clear im_pairsOk_1_c); all_goals (try clear slices_IndexFunc_TxnPair_f_im_pairsOk_1_c); all_goals (try clear im_rising_TxnPair_f_im_keyOf_c); all_goals (try clear slices_ContainsFunc_TxnPair_f_im_pairsOk_1_c)
  all_goals first
    | omega
    | (simp only [List.length_cons,List.length_nil,Nat.reduceAdd];done)
    | (simp only [List.length_set,List.length_append,List.length_cons,List.length_nil,List.length_map,List.length_take,List.length_drop];omega)
    | (obtain ⟨x,_,rfl⟩ := List.mem_map.1 (by assumption);rfl)
    | (obtain ⟨x,_,rfl⟩ := List.mem_map.1 (List.mem_of_mem_take (by assumption));rfl)
    | (obtain ⟨x,_,rfl⟩ := List.mem_map.1 (List.mem_of_mem_drop (List.mem_of_mem_take (by assumption)));rfl)
    | (simp (disch := omega) only [wr_id];omega)
    | (guard_hyp t0;first|(rw [im_pairsOk_1];all_goals first|grind|(repeat' split) <;> first|rfl|grind))
    | (guard_hyp t1;first|(rw [im_keyOf];all_goals first|grind|(repeat' split) <;> first|rfl|grind))
    | (guard_hyp t2;first|(rw [im_rising_TxnPair_f_im_keyOf_K1,im_rising_TxnPair_f_im_keyOf_L1] at hM;rw [im_rising_TxnPair_f_im_keyOf_K1];all_goals grind)|(rw [im_rising_TxnPair_f_im_keyOf_K1,im_rising_TxnPair_f_im_keyOf_L1] at hM;grind)|(rw [im_rising_TxnPair_f_im_keyOf];all_goals first|grind|(repeat' split) <;> first|rfl|grind))
    | (guard_hyp t3;first|(rw [slices_IndexFunc_TxnPair_f_im_pairsOk_1_K1,slices_IndexFunc_TxnPair_f_im_pairsOk_1_L1] at hM;rw [slices_IndexFunc_TxnPair_f_im_pairsOk_1_K1];all_goals grind)|(rw [slices_IndexFunc_TxnPair_f_im_pairsOk_1_K1,slices_IndexFunc_TxnPair_f_im_pairsOk_1_L1] at hM;grind)|(rw [slices_IndexFunc_TxnPair_f_im_pairsOk_1];all_goals first|grind|(repeat' split) <;> first|rfl|grind))
    | (guard_hyp t4;first|(rw [slices_ContainsFunc_TxnPair_f_im_pairsOk_1];all_goals first|grind|(repeat' split) <;> first|rfl|grind))
    | (guard_hyp t5;first|(rw [im_pairsOk];all_goals first|grind|(repeat' split) <;> first|rfl|grind))
    | grind)
theorem im_pairsOk_1_c : Sim_pairsOk_1_c := layU31.1
theorem im_keyOf_c : Sim_keyOf_c := layU31.2.1
theorem im_rising_TxnPair_f_im_keyOf_c : Sim_rising_TxnPair_f_im_keyOf_c := layU31.2.2.1 im_keyOf_c
theorem slices_IndexFunc_TxnPair_f_im_pairsOk_1_c : Sslices_IndexFunc_TxnPair_f_im_pairsOk_1_c := layU31.2.2.2.1 im_pairsOk_1_c
theorem slices_ContainsFunc_TxnPair_f_im_pairsOk_1_c : Sslices_ContainsFunc_TxnPair_f_im_pairsOk_1_c := layU31.2.2.2.2.1 slices_IndexFunc_TxnPair_f_im_pairsOk_1_c
theorem im_pairsOk_c : Sim_pairsOk_c := layU31.2.2.2.2.2 im_rising_TxnPair_f_im_keyOf_c slices_ContainsFunc_TxnPair_f_im_pairsOk_1_c
end Go.Proofs.Ytghkelfpomfadaa
end
