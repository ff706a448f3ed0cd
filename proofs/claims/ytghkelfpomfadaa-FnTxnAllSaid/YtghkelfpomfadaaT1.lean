/- Contracts of the reference on transactions: what is ok, for lists whose lengths are bounded as stated. -/
import Derived.Test.YtghkelfpomfadaaG1
set_option linter.unusedVariables false
set_option linter.unusedSimpArgs false
section
namespace Go.Proofs.Ytghkelfpomfadaa
open Go.Ae
open Go.Ae renaming getR_eq → z1, getR_ne → z2, getR_nil → z3, lF_mk → z4, cont1 → z5, cont2a → z6, cont2b → z7, cont3a → z8, cont3b → z9, cont3c → z10, wr_up → z11, wr_dn → z12
open Go.Ae.VSub renaming any' → z13, same → z14, nilRd → z15, mtRd → z16, lit → z17, ptr' → z18, sl' → z19, slNil → z20, agg' → z21, tup' → z22, fn' → z23, rpSame → z24, rpF → z25, frz → z26, frzC → z27
open Go.Ae.LSub renaming nil' → z28, cons' → z29, mkR' → z30
open Go.Ae.SSub renaming nil' → z31, cons' → z32
open Go.Ae.HTell renaming nil' → z33, some' → z34, freshRows → z35
open Go.Ae.BSub renaming cells' → z36, own → z37
open Go.Ae.RowsAre renaming map → z38, nil → z39, app → z40, spl → z41, take → z42, drop → z43, cons → z44
set_option linter.unusedSimpArgs false
set_option linter.unusedVariables false
attribute [local irreducible] wr bitsOf VSub LSub SSub HTell BSub RowIs RowsAre Ent lF mkR
def sp_l1Key (k : Int) : Bool :=
  (sp_l6In k 0 39)
def sp_l1Val (n : Int) : Bool :=
  (sp_l6In n (-99999) 99999)
def Ssp_l1Key_c : Prop := ∀ (k : Int), Gives Try.prog 21 [.lit (.int .i64 k)] (.lit (.bool (sp_l1Key k)))
def Ssp_l1Val_c : Prop := ∀ (n : Int), Gives Try.prog 22 [.lit (.int .i64 n)] (.lit (.bool (sp_l1Val n)))
set_option maxRecDepth 10000 in
set_option maxHeartbeats 4000000 in
theorem layT11 : (Ssp_l1Key_c) ∧ (Ssp_l1Val_c) := by
  refine ⟨fun k => have t0 := tg 0; Does.goR Try.func21 Try.ntmps21 Try.results21 rfl (Nat.zero_le _) rfl ?_,
    fun n => have t1 := tg 1; Does.goR Try.func22 Try.ntmps22 Try.results22 rfl (Nat.zero_le _) rfl ?_⟩
  all_goals (
  simp only [argR, Nat.reduceAdd]
  repeat' (first
    | ((with_reducible show Aft _ _ _ _);(first|refine Aft.t ?_|refine Aft.q ?_|refine Aft.b ?_|refine Aft.e ?_|refine Aft.tr ?_|refine Aft.br ?_|refine Aft.qr ?_|refine Aft.tx ?_|refine Aft.bx ?_|refine Aft.by' rfl ?_|refine Aft.qx ?_))
    | ((with_reducible show RegS _ _ _ _ _ _);(first
      | (refine RegS.nil (hK _ _ ?_);clear hK K)
      | ((first|refine RegS.stepN fun K1 h1 => ?_|refine RegS.step fun K1 h1 => ?_);simp only [go_sem,reduceCtorEq,Nat.reduceAdd,Nat.reduceSub,Nat.reduceMul,Nat.reduceLeDiff,Nat.reduceLT,Nat.reduceEqDiff])))
    | ((with_reducible show QuietS _ _ _ _ _ _);(first
      | (refine QuietS.nil (hK _ _ ?_);clear hK K)
      | ((first|refine QuietS.stepN fun K1 h1 => ?_|refine QuietS.step fun K1 h1 => ?_);simp only [go_sem,reduceCtorEq,Nat.reduceAdd,Nat.reduceSub,Nat.reduceMul,Nat.reduceLeDiff,Nat.reduceLT,Nat.reduceEqDiff])))
    | ((with_reducible show Tri _ _ _ _ _ _);(first
      | (refine Tri.regSeq fun K hK => RegS.run ?_)
      | (refine Tri.regA fun K hK => ?_)
      | (refine Tri.cond (b := ?_) ?_ ?_ ?_;rotate_left 1;focus (simp only [ev,z1,z2,Nat.reduceEqDiff,Nat.reduceLT,not_false_eq_true];exact rfl))
      | refine Tri.skipA ?_
      | refine Tri.exitA ?_
      | refine Tri.retA ?_
      | refine Tri.block ?_
      | refine Tri.seq ?_))
    | ((with_reducible show CallA _ _ _ _ _);(first
      | ((refine CallA.gv0 (sp_l6In_c ?_ ?_ ?_) ?_ ?_;rotate_left 3);(focus ((repeat' (first|simp only [z1,z2,z3,Nat.reduceEqDiff,Nat.reduceLT,not_false_eq_true]|exact z28|refine z29 ?_ ?_|exact z31|refine z32 ?_ ?_|refine z30 ?_|exact z33|refine z34 rfl ?_ ?_|refine z35 ?_|exact z13|exact z14|exact z15|exact z16|refine z17 ?_|refine z18 rfl ?_|refine z19 rfl ?_ ?_|(show lτ _ _ = some _;exact rfl)|exact z20 rfl rfl|refine z20 rfl ?_|refine z21 ?_|refine z23 ?_|exact z24|refine z25 ?_ rfl rfl ?_|refine z22 ?_|refine z26 ?_ rfl rfl ?_ ?_|refine z27 ?_ rfl rfl ?_ ?_ ?_|exact True.intro|exact z4 rfl|exact z5|exact z6|exact z7|exact z8|exact z9|exact z10|refine z36 ?_|refine z37 rfl ?_|exact z38|exact z39|refine z40 (xs := ?_) (ys := ?_) ?_ ?_|refine z41 (xs := ?_) (ys := ?_) ?_ ?_ ?_ ?_|refine z42 (xs := ?_) ?_|refine z43 (xs := ?_) ?_|refine z44 (x := ?_) (xs := ?_) ?_ ?_|refine RowsAre.rep (x := ?_) (n := ?_) ?_|(with_reducible show RowIs _ _ _;first|exact Int_row _|exact Str_row _)|with_reducible exact rfl|(refine z11 ?_;omega)|(refine z12 ?_;omega)|simp only [List.length_append,List.length_map,List.length_cons,List.length_nil,List.length_set,List.length_replicate]));(all_goals (fail_if_success (with_reducible show FZ _ _)));(all_goals (fail_if_success (with_reducible show List.contains _ _ = true)));(all_goals (fail_if_success (with_reducible show False)));(all_goals (fail_if_success (with_reducible show VSub _ _ _ _ _ _))))))
      | ((refine CallA.lend (sp_l6In_c ?_ ?_ ?_) rfl ?_ ?_;rotate_left 3);(focus ((repeat' (first|simp only [z1,z2,z3,Nat.reduceEqDiff,Nat.reduceLT,not_false_eq_true]|exact z28|refine z29 ?_ ?_|exact z31|refine z32 ?_ ?_|refine z30 ?_|exact z33|refine z34 rfl ?_ ?_|refine z35 ?_|exact z13|exact z14|exact z15|exact z16|refine z17 ?_|refine z18 rfl ?_|refine z19 rfl ?_ ?_|(show lτ _ _ = some _;exact rfl)|exact z20 rfl rfl|refine z20 rfl ?_|refine z21 ?_|refine z23 ?_|exact z24|refine z25 ?_ rfl rfl ?_|refine z22 ?_|refine z26 ?_ rfl rfl ?_ ?_|refine z27 ?_ rfl rfl ?_ ?_ ?_|exact True.intro|exact z4 rfl|exact z5|exact z6|exact z7|exact z8|exact z9|exact z10|refine z36 ?_|refine z37 rfl ?_|exact z38|exact z39|refine z40 (xs := ?_) (ys := ?_) ?_ ?_|refine z41 (xs := ?_) (ys := ?_) ?_ ?_ ?_ ?_|refine z42 (xs := ?_) ?_|refine z43 (xs := ?_) ?_|refine z44 (x := ?_) (xs := ?_) ?_ ?_|refine RowsAre.rep (x := ?_) (n := ?_) ?_|(with_reducible show RowIs _ _ _;first|exact Int_row _|exact Str_row _)|with_reducible exact rfl|(refine z11 ?_;omega)|(refine z12 ?_;omega)|simp only [List.length_append,List.length_map,List.length_cons,List.length_nil,List.length_set,List.length_replicate]));(all_goals (fail_if_success (with_reducible show FZ _ _)));(all_goals (fail_if_success (with_reducible show List.contains _ _ = true)));(all_goals (fail_if_success (with_reducible show False)));(all_goals (fail_if_success (with_reducible show VSub _ _ _ _ _ _))))))))
    | ((with_reducible show CallL _ _ _ _);(first
      | ((refine CallL.gv0 (sp_l6In_c ?_ ?_ ?_) ?_ ?_;rotate_left 3);(focus ((repeat' (first|simp only [z1,z2,z3,Nat.reduceEqDiff,Nat.reduceLT,not_false_eq_true]|exact z28|refine z29 ?_ ?_|exact z31|refine z32 ?_ ?_|refine z30 ?_|exact z33|refine z34 rfl ?_ ?_|refine z35 ?_|exact z13|exact z14|exact z15|exact z16|refine z17 ?_|refine z18 rfl ?_|refine z19 rfl ?_ ?_|(show lτ _ _ = some _;exact rfl)|exact z20 rfl rfl|refine z20 rfl ?_|refine z21 ?_|refine z23 ?_|exact z24|refine z25 ?_ rfl rfl ?_|refine z22 ?_|refine z26 ?_ rfl rfl ?_ ?_|refine z27 ?_ rfl rfl ?_ ?_ ?_|exact True.intro|exact z4 rfl|exact z5|exact z6|exact z7|exact z8|exact z9|exact z10|refine z36 ?_|refine z37 rfl ?_|exact z38|exact z39|refine z40 (xs := ?_) (ys := ?_) ?_ ?_|refine z41 (xs := ?_) (ys := ?_) ?_ ?_ ?_ ?_|refine z42 (xs := ?_) ?_|refine z43 (xs := ?_) ?_|refine z44 (x := ?_) (xs := ?_) ?_ ?_|refine RowsAre.rep (x := ?_) (n := ?_) ?_|(with_reducible show RowIs _ _ _;first|exact Int_row _|exact Str_row _)|with_reducible exact rfl|(refine z11 ?_;omega)|(refine z12 ?_;omega)|simp only [List.length_append,List.length_map,List.length_cons,List.length_nil,List.length_set,List.length_replicate]));(all_goals (fail_if_success (with_reducible show FZ _ _)));(all_goals (fail_if_success (with_reducible show List.contains _ _ = true)));(all_goals (fail_if_success (with_reducible show False)));(all_goals (fail_if_success (with_reducible show VSub _ _ _ _ _ _))))))))
    | ((with_reducible show EndK _ _ _ _ _ _ _);(first
      | ((first
      | (guard_hyp t0;refine EndK.eqv (vs := ?_) (f := fun x : Bool => .lit (.bool x)) ?_ (by first|exact .inr rfl|exact .inl rfl) ?_ ?_ ?_;rotate_left 2)
      | (guard_hyp t1;refine EndK.eqv (vs := ?_) (f := fun x : Bool => .lit (.bool x)) ?_ (by first|exact .inr rfl|exact .inl rfl) ?_ ?_ ?_;rotate_left 2)
      ); (focus (simp only [go_sem, reduceCtorEq, Nat.reduceAdd, Nat.reduceSub, Nat.reduceMul, Nat.reduceLeDiff, Nat.reduceLT, Nat.reduceEqDiff]; exact rfl)); (focus (repeat' (first | simp only [z1, z2, z3, Nat.reduceEqDiff, Nat.reduceLT, not_false_eq_true] | exact z28 | refine z29 ?_ ?_ | exact z31 | refine z32 ?_ ?_ | refine z30 ?_ | exact z33 | refine z34 rfl ?_ ?_ | refine z35 ?_ | exact z13 | exact z14 | exact z15 | exact z16 | refine z17 ?_ | refine z18 rfl ?_ | refine z19 rfl ?_ ?_ | (show lτ _ _ = some _; exact rfl) | exact z20 rfl rfl | refine z20 rfl ?_ | refine z21 ?_ | refine z23 ?_ | exact z24 | refine z25 ?_ rfl rfl ?_ | refine z22 ?_ | refine z26 ?_ rfl rfl ?_ ?_ | refine z27 ?_ rfl rfl ?_ ?_ ?_ | exact True.intro | exact z4 rfl | exact z5 | exact z6 | exact z7 | exact z8 | exact z9 | exact z10 | refine z36 ?_ | refine z37 rfl ?_ | exact z38 | exact z39 | refine z40 (xs := ?_) (ys := ?_) ?_ ?_ | refine z41 (xs := ?_) (ys := ?_) ?_ ?_ ?_ ?_ | refine z42 (xs := ?_) ?_ | refine z43 (xs := ?_) ?_ | refine z44 (x := ?_) (xs := ?_) ?_ ?_ | refine RowsAre.rep (x := ?_) (n := ?_) ?_ | (with_reducible show RowIs _ _ _; first | exact Int_row _ | exact Str_row _) | with_reducible exact rfl | (refine z11 ?_; omega) | (refine z12 ?_; omega) | simp only [List.length_append, List.length_map, List.length_cons, List.length_nil, List.length_set, List.length_replicate]))))))
    | (refine h1 _ _ ?_;clear h1 K1)
    | refine And.intro ?_ ?_
    | ((first|with_reducible show (_ : Int) ≤ _|with_reducible show (_ : Int) < _|with_reducible show (_ : Int) = _|with_reducible show (_ : Nat) ≤ _|with_reducible show (_ : Nat) < _|with_reducible show (_ : Nat) = _|with_reducible show ¬ _|with_reducible show _ ≠ _|with_reducible show False);omega)
    | (intro h;(try simp only [decide_eq_true_eq,decide_eq_false_iff_not,Int.not_lt,Int.not_le,beq_iff_eq,bne_iff_ne,beq_eq_false_iff_ne,bne_eq_false_iff_eq,ne_eq,Bool.not_eq_true',Bool.not_eq_false',Decidable.not_not] at h);(try contradiction)))
  all_goals (try clear h1); all_goals (try clear K1); all_goals (try clear hK); all_goals (try clear K); all_goals (try dsimp only); all_goals (try simp only [Bool.not_eq_false', Bool.not_eq_true', decide_eq_true_eq, decide_eq_false_iff_not] at *); skip
  all_goals first
    | omega
    | (simp only [List.length_cons,List.length_nil,Nat.reduceAdd];done)
    | (simp only [List.length_set,List.length_append,List.length_cons,List.length_nil,List.length_map,List.length_take,List.length_drop];omega)
    | (obtain ⟨x,_,rfl⟩ := List.mem_map.1 (by assumption);rfl)
    | (obtain ⟨x,_,rfl⟩ := List.mem_map.1 (List.mem_of_mem_take (by assumption));rfl)
    | (obtain ⟨x,_,rfl⟩ := List.mem_map.1 (List.mem_of_mem_drop (List.mem_of_mem_take (by assumption)));rfl)
    | (simp (disch := omega) only [wr_id];omega)
    | (guard_hyp t0;first|(rw [sp_l1Key];all_goals first|grind|(repeat' split) <;> first|rfl|grind))
    | (guard_hyp t1;first|(rw [sp_l1Val];all_goals first|grind|(repeat' split) <;> first|rfl|grind))
    | grind)
theorem sp_l1Key_c : Ssp_l1Key_c := layT11.1
theorem sp_l1Val_c : Ssp_l1Val_c := layT11.2
end Go.Proofs.Ytghkelfpomfadaa
end
section
namespace Go.Proofs.Ytghkelfpomfadaa
open Go.Ae
open Go.Ae renaming getR_eq → z1, getR_ne → z2, getR_nil → z3, lF_mk → z4, cont1 → z5, cont2a → z6, cont2b → z7, cont3a → z8, cont3b → z9, cont3c → z10, wr_up → z11, wr_dn → z12
open Go.Ae.VSub renaming any' → z13, same → z14, nilRd → z15, mtRd → z16, lit → z17, ptr' → z18, sl' → z19, slNil → z20, agg' → z21, tup' → z22, fn' → z23, rpSame → z24, rpF → z25, frz → z26, frzC → z27
open Go.Ae.LSub renaming nil' → z28, cons' → z29, mkR' → z30
open Go.Ae.SSub renaming nil' → z31, cons' → z32
open Go.Ae.HTell renaming nil' → z33, some' → z34, freshRows → z35
open Go.Ae.BSub renaming cells' → z36, own → z37
open Go.Ae.RowsAre renaming map → z38, nil → z39, app → z40, spl → z41, take → z42, drop → z43, cons → z44
set_option linter.unusedSimpArgs false
set_option linter.unusedVariables false
attribute [local irreducible] wr bitsOf VSub LSub SSub HTell BSub RowIs RowsAre Ent lF mkR
def sp_TxnOk_L1 (t : GTxn) (i : Nat) : Fl (Bool) (Unit) :=
  if h0 : ((i : Int) < (t.Guards.length : Int)) then
      let g := (t.Guards.getD i default)
      if (((((sp_l1Key g.Key) = false) ∨ ((sp_l1Val g.Least) = false)) ∨ ((sp_l1Val g.Most) = false)) ∨ (((i : Int) > 0) ∧ ((t.Guards.getD (wr .i64 ((i : Int) - 1)).toNat default).Key ≥ g.Key))) then
        .ret false
      else 
        sp_TxnOk_L1 t (i + 1)
  else .go ()
termination_by ((t.Guards.length : Int) - (i : Int)).toNat
decreasing_by all_goals omega
def sp_TxnOk_L2 (t : GTxn) (i4 : Nat) : Fl (Bool) (Unit) :=
  if h0 : ((i4 : Int) < (t.Writes.length : Int)) then
      let w := (t.Writes.getD i4 default)
      if (((((sp_l1Key w.Key) = false) ∨ ((w.From ≠ (-1)) ∧ ((sp_l1Key w.From) = false))) ∨ ((sp_l1Val w.Add) = false)) ∨ (((i4 : Int) > 0) ∧ ((t.Writes.getD (wr .i64 ((i4 : Int) - 1)).toNat default).Key ≥ w.Key))) then
        .ret false
      else 
        sp_TxnOk_L2 t (i4 + 1)
  else .go ()
termination_by ((t.Writes.length : Int) - (i4 : Int)).toNat
decreasing_by all_goals omega
def sp_TxnOk_L3 (t : GTxn) (i6 : Nat) : Fl (Bool) (Unit) :=
  if h0 : ((i6 : Int) < (t.Reads.length : Int)) then
      if (((sp_l1Key (t.Reads.getD i6 default)) = false) ∨ (((i6 : Int) > 0) ∧ ((t.Reads.getD (wr .i64 ((i6 : Int) - 1)).toNat default) ≥ (t.Reads.getD i6 default)))) then
        .ret false
      else 
        sp_TxnOk_L3 t (i6 + 1)
  else .go ()
termination_by ((t.Reads.length : Int) - (i6 : Int)).toNat
decreasing_by all_goals omega
def sp_TxnOk_K3 (t : GTxn) (i6 : Nat) : Bool :=
  match sp_TxnOk_L3 t i6 with
  | .ret rr => rr
  | .go q =>
    true
def sp_TxnOk_K2 (t : GTxn) (i4 : Nat) : Bool :=
  match sp_TxnOk_L2 t i4 with
  | .ret rr => rr
  | .go q =>
    let i6 : Nat := 0
    sp_TxnOk_K3 t i6
def sp_TxnOk_K1 (t : GTxn) (i : Nat) : Bool :=
  match sp_TxnOk_L1 t i with
  | .ret rr => rr
  | .go q =>
    let i4 : Nat := 0
    sp_TxnOk_K2 t i4
def sp_TxnOk (t : GTxn) : Bool :=
  if (((((t.Guards.length : Int) > 4) ∨ ((t.Writes.length : Int) > 4)) ∨ ((t.Reads.length : Int) > 4)) ∨ ((wr .i64 ((wr .i64 ((t.Guards.length : Int) + (t.Writes.length : Int))) + (t.Reads.length : Int))) = 0)) then
    false
  else 
    let i : Nat := 0
    sp_TxnOk_K1 t i
def Ssp_TxnOk_c : Prop := ∀ (t : GTxn) (hp0 : t.Guards.length ≤ 2147483648) (hp1 : t.Writes.length ≤ 2147483648) (hp2 : t.Reads.length ≤ 2147483648), Gives Try.prog 9 [.agg [.r (.rd 3 encGTxnGuard t.Guards), .r (.rd 3 encGTxnSum t.Writes), .r (.rd 1 encInt t.Reads)]] (.lit (.bool (sp_TxnOk t)))
set_option maxRecDepth 10000 in
set_option maxHeartbeats 2000000 in
theorem layT21 : (Ssp_TxnOk_c) := by
  refine fun t hp0 hp1 hp2 => have t0 := tg 0; Does.goR Try.func9 Try.ntmps9 Try.results9 rfl (Nat.zero_le _) rfl ?_
  all_goals (
  simp only [argR, Nat.reduceAdd]
  repeat' (first
    | ((with_reducible show Aft _ _ _ _);(first|refine Aft.t ?_|refine Aft.q ?_|refine Aft.b ?_|refine Aft.e ?_|refine Aft.tr ?_|refine Aft.br ?_|refine Aft.qr ?_|refine Aft.tx ?_|refine Aft.bx ?_|refine Aft.by' rfl ?_|refine Aft.qx ?_))
    | ((with_reducible show RegS _ _ _ _ _ _);(first
      | (refine RegS.nil (hK _ _ ?_);clear hK K)
      | ((first|refine RegS.stepN fun K1 h1 => ?_|refine RegS.step fun K1 h1 => ?_);simp only [go_sem,reduceCtorEq,Nat.reduceAdd,Nat.reduceSub,Nat.reduceMul,Nat.reduceLeDiff,Nat.reduceLT,Nat.reduceEqDiff])))
    | ((with_reducible show QuietS _ _ _ _ _ _);(first
      | (refine QuietS.nil (hK _ _ ?_);clear hK K)
      | ((first|refine QuietS.stepN fun K1 h1 => ?_|refine QuietS.step fun K1 h1 => ?_);simp only [go_sem,reduceCtorEq,Nat.reduceAdd,Nat.reduceSub,Nat.reduceMul,Nat.reduceLeDiff,Nat.reduceLT,Nat.reduceEqDiff])))
    | ((with_reducible show Tri _ _ _ _ _ _);(first
      | (refine Tri.regSeq fun K hK => RegS.run ?_)
      | (refine Tri.regA fun K hK => ?_)
      | (refine Tri.cond (b := ?_) ?_ ?_ ?_;rotate_left 1;focus (simp only [ev,z1,z2,Nat.reduceEqDiff,Nat.reduceLT,not_false_eq_true];exact rfl))
      | refine Tri.skipA ?_
      | refine Tri.exitA ?_
      | refine Tri.retA ?_
      | refine Tri.block ?_
      | (guard_hyp t0;(first|(refine Tri.fastSeqN 7 rfl mixedP (by kernel_rfl) fun K hK => QuietS.run ?_)|(refine Tri.fastA 7 rfl mixedP (by kernel_rfl) fun K hK => ?_)|(refine Tri.fastSeqN 13 rfl mixedP (by kernel_rfl) fun K hK => QuietS.run ?_)|(refine Tri.fastA 13 rfl mixedP (by kernel_rfl) fun K hK => ?_)|(refine Tri.fastSeqN 18 rfl mixedP (by kernel_rfl) fun K hK => QuietS.run ?_)|(refine Tri.fastA 18 rfl mixedP (by kernel_rfl) fun K hK => ?_) ))
      | ((with_reducible show Tri _ _ (Code.loop _) _ _ _);(first
      | (guard_hyp t0;refine Tri.loopR (ι := Nat) 4 rfl (fun j => mkR 163 [(1,.ptr 0 3 0 0),(3,.lit (.int .i64 (j : Int)))]) (fun j => [some (.cells [.r (.rd 3 encGTxnGuard t.Guards),.r (.rd 3 encGTxnSum t.Writes),.r (.rd 1 encInt t.Reads)])]) (fun j => sp_TxnOk_K1 t j = sp_TxnOk t ∧ (j : Int) ≤ (t.Guards.length : Int)) (fun j => ((t.Guards.length : Int) - (j : Int)).toNat) 0 (Ent.places [.slot 1] _ (by simp only [go_sem,reduceCtorEq,Nat.reduceAdd,Nat.reduceSub,Nat.reduceMul,Nat.reduceLeDiff,Nat.reduceLT,Nat.reduceEqDiff];rfl) rfl rfl (Nat.zero_le _) ?_ ?_) ?_ ?_;rotate_left 3;(focus (rintro i ⟨hM,hI⟩;(try dsimp only at hM hI)));rotate_right 3)
      | (guard_hyp t0;refine Tri.loopR (ι := Nat) 10 rfl (fun j => mkR 163 [(1,.ptr 0 3 0 0),(5,.lit (.int .i64 (j : Int)))]) (fun j => [some (.cells [.r (.rd 3 encGTxnGuard t.Guards),.r (.rd 3 encGTxnSum t.Writes),.r (.rd 1 encInt t.Reads)])]) (fun j => sp_TxnOk_K2 t j = sp_TxnOk t ∧ (j : Int) ≤ (t.Writes.length : Int)) (fun j => ((t.Writes.length : Int) - (j : Int)).toNat) 0 (Ent.places [.slot 1] _ (by simp only [go_sem,reduceCtorEq,Nat.reduceAdd,Nat.reduceSub,Nat.reduceMul,Nat.reduceLeDiff,Nat.reduceLT,Nat.reduceEqDiff];rfl) rfl rfl (Nat.zero_le _) ?_ ?_) ?_ ?_;rotate_left 3;(focus (rintro i4 ⟨hM,hI⟩;(try dsimp only at hM hI)));rotate_right 3)
      | (guard_hyp t0;refine Tri.loopR (ι := Nat) 16 rfl (fun j => mkR 163 [(1,.ptr 0 3 0 0),(7,.lit (.int .i64 (j : Int)))]) (fun j => [some (.cells [.r (.rd 3 encGTxnGuard t.Guards),.r (.rd 3 encGTxnSum t.Writes),.r (.rd 1 encInt t.Reads)])]) (fun j => sp_TxnOk_K3 t j = sp_TxnOk t ∧ (j : Int) ≤ (t.Reads.length : Int)) (fun j => ((t.Reads.length : Int) - (j : Int)).toNat) 0 (Ent.places [.slot 1] _ (by simp only [go_sem,reduceCtorEq,Nat.reduceAdd,Nat.reduceSub,Nat.reduceMul,Nat.reduceLeDiff,Nat.reduceLT,Nat.reduceEqDiff];rfl) rfl rfl (Nat.zero_le _) ?_ ?_) ?_ ?_;rotate_left 3;(focus (rintro i6 ⟨hM,hI⟩;(try dsimp only at hM hI)));rotate_right 3)
      ); (focus (repeat' (first | simp only [z1, z2, z3, Nat.reduceEqDiff, Nat.reduceLT, not_false_eq_true] | exact z28 | refine z29 ?_ ?_ | exact z31 | refine z32 ?_ ?_ | refine z30 ?_ | exact z33 | refine z34 rfl ?_ ?_ | refine z35 ?_ | exact z13 | exact z14 | exact z15 | exact z16 | refine z17 ?_ | refine z18 rfl ?_ | refine z19 rfl ?_ ?_ | (show lτ _ _ = some _; exact rfl) | exact z20 rfl rfl | refine z20 rfl ?_ | refine z21 ?_ | refine z23 ?_ | exact z24 | refine z25 ?_ rfl rfl ?_ | refine z22 ?_ | refine z26 ?_ rfl rfl ?_ ?_ | refine z27 ?_ rfl rfl ?_ ?_ ?_ | exact True.intro | exact z4 rfl | exact z5 | exact z6 | exact z7 | exact z8 | exact z9 | exact z10 | refine z36 ?_ | refine z37 rfl ?_ | exact z38 | exact z39 | refine z40 (xs := ?_) (ys := ?_) ?_ ?_ | refine z41 (xs := ?_) (ys := ?_) ?_ ?_ ?_ ?_ | refine z42 (xs := ?_) ?_ | refine z43 (xs := ?_) ?_ | refine z44 (x := ?_) (xs := ?_) ?_ ?_ | refine RowsAre.rep (x := ?_) (n := ?_) ?_ | (with_reducible show RowIs _ _ _; first | exact Int_row _ | exact Str_row _) | (with_reducible show RowIs _ _ _; first | exact GTxn_row _ | exact GTxn_mk _ _ _ | exact GTxnGuard_row _ | exact GTxnGuard_mk _ _ _ | exact GTxnSum_row _ | exact GTxnSum_mk _ _ _) | with_reducible exact rfl | (refine z11 ?_; omega) | (refine z12 ?_; omega) | simp only [List.length_append, List.length_map, List.length_cons, List.length_nil, List.length_set, List.length_replicate]))); (focus (repeat' (first | simp only [z1, z2, z3, Nat.reduceEqDiff, Nat.reduceLT, not_false_eq_true] | exact z28 | refine z29 ?_ ?_ | exact z31 | refine z32 ?_ ?_ | refine z30 ?_ | exact z33 | refine z34 rfl ?_ ?_ | refine z35 ?_ | exact z13 | exact z14 | exact z15 | exact z16 | refine z17 ?_ | refine z18 rfl ?_ | refine z19 rfl ?_ ?_ | (show lτ _ _ = some _; exact rfl) | exact z20 rfl rfl | refine z20 rfl ?_ | refine z21 ?_ | refine z23 ?_ | exact z24 | refine z25 ?_ rfl rfl ?_ | refine z22 ?_ | refine z26 ?_ rfl rfl ?_ ?_ | refine z27 ?_ rfl rfl ?_ ?_ ?_ | exact True.intro | exact z4 rfl | exact z5 | exact z6 | exact z7 | exact z8 | exact z9 | exact z10 | refine z36 ?_ | refine z37 rfl ?_ | exact z38 | exact z39 | refine z40 (xs := ?_) (ys := ?_) ?_ ?_ | refine z41 (xs := ?_) (ys := ?_) ?_ ?_ ?_ ?_ | refine z42 (xs := ?_) ?_ | refine z43 (xs := ?_) ?_ | refine z44 (x := ?_) (xs := ?_) ?_ ?_ | refine RowsAre.rep (x := ?_) (n := ?_) ?_ | (with_reducible show RowIs _ _ _; first | exact Int_row _ | exact Str_row _) | (with_reducible show RowIs _ _ _; first | exact GTxn_row _ | exact GTxn_mk _ _ _ | exact GTxnGuard_row _ | exact GTxnGuard_mk _ _ _ | exact GTxnSum_row _ | exact GTxnSum_mk _ _ _) | with_reducible exact rfl | (refine z11 ?_; omega) | (refine z12 ?_; omega) | simp only [List.length_append, List.length_map, List.length_cons, List.length_nil, List.length_set, List.length_replicate]))); rotate_left 1)
      | refine Tri.seq ?_))
    | ((with_reducible show CallA _ _ _ _ _);(first
      | ((first
      | (refine CallA.gv0 (sp_l1Key_c ?_) ?_ ?_;rotate_left 1)
      | (refine CallA.gv0 (sp_l1Val_c ?_) ?_ ?_;rotate_left 1)
      ); (focus ((repeat' (first | simp only [z1, z2, z3, Nat.reduceEqDiff, Nat.reduceLT, not_false_eq_true] | exact z28 | refine z29 ?_ ?_ | exact z31 | refine z32 ?_ ?_ | refine z30 ?_ | exact z33 | refine z34 rfl ?_ ?_ | refine z35 ?_ | exact z13 | exact z14 | exact z15 | exact z16 | refine z17 ?_ | refine z18 rfl ?_ | refine z19 rfl ?_ ?_ | (show lτ _ _ = some _; exact rfl) | exact z20 rfl rfl | refine z20 rfl ?_ | refine z21 ?_ | refine z23 ?_ | exact z24 | refine z25 ?_ rfl rfl ?_ | refine z22 ?_ | refine z26 ?_ rfl rfl ?_ ?_ | refine z27 ?_ rfl rfl ?_ ?_ ?_ | exact True.intro | exact z4 rfl | exact z5 | exact z6 | exact z7 | exact z8 | exact z9 | exact z10 | refine z36 ?_ | refine z37 rfl ?_ | exact z38 | exact z39 | refine z40 (xs := ?_) (ys := ?_) ?_ ?_ | refine z41 (xs := ?_) (ys := ?_) ?_ ?_ ?_ ?_ | refine z42 (xs := ?_) ?_ | refine z43 (xs := ?_) ?_ | refine z44 (x := ?_) (xs := ?_) ?_ ?_ | refine RowsAre.rep (x := ?_) (n := ?_) ?_ | (with_reducible show RowIs _ _ _; first | exact Int_row _ | exact Str_row _) | (with_reducible show RowIs _ _ _; first | exact GTxn_row _ | exact GTxn_mk _ _ _ | exact GTxnGuard_row _ | exact GTxnGuard_mk _ _ _ | exact GTxnSum_row _ | exact GTxnSum_mk _ _ _) | with_reducible exact rfl | (refine z11 ?_; omega) | (refine z12 ?_; omega) | simp only [List.length_append, List.length_map, List.length_cons, List.length_nil, List.length_set, List.length_replicate])); (all_goals (fail_if_success (with_reducible show FZ _ _))); (all_goals (fail_if_success (with_reducible show List.contains _ _ = true))); (all_goals (fail_if_success (with_reducible show False))); (all_goals (fail_if_success (with_reducible show VSub _ _ _ _ _ _))))))
      | ((first
      | (refine CallA.lend (sp_l1Key_c ?_) rfl ?_ ?_;rotate_left 1)
      | (refine CallA.lend (sp_l1Val_c ?_) rfl ?_ ?_;rotate_left 1)
      ); (focus ((repeat' (first | simp only [z1, z2, z3, Nat.reduceEqDiff, Nat.reduceLT, not_false_eq_true] | exact z28 | refine z29 ?_ ?_ | exact z31 | refine z32 ?_ ?_ | refine z30 ?_ | exact z33 | refine z34 rfl ?_ ?_ | refine z35 ?_ | exact z13 | exact z14 | exact z15 | exact z16 | refine z17 ?_ | refine z18 rfl ?_ | refine z19 rfl ?_ ?_ | (show lτ _ _ = some _; exact rfl) | exact z20 rfl rfl | refine z20 rfl ?_ | refine z21 ?_ | refine z23 ?_ | exact z24 | refine z25 ?_ rfl rfl ?_ | refine z22 ?_ | refine z26 ?_ rfl rfl ?_ ?_ | refine z27 ?_ rfl rfl ?_ ?_ ?_ | exact True.intro | exact z4 rfl | exact z5 | exact z6 | exact z7 | exact z8 | exact z9 | exact z10 | refine z36 ?_ | refine z37 rfl ?_ | exact z38 | exact z39 | refine z40 (xs := ?_) (ys := ?_) ?_ ?_ | refine z41 (xs := ?_) (ys := ?_) ?_ ?_ ?_ ?_ | refine z42 (xs := ?_) ?_ | refine z43 (xs := ?_) ?_ | refine z44 (x := ?_) (xs := ?_) ?_ ?_ | refine RowsAre.rep (x := ?_) (n := ?_) ?_ | (with_reducible show RowIs _ _ _; first | exact Int_row _ | exact Str_row _) | (with_reducible show RowIs _ _ _; first | exact GTxn_row _ | exact GTxn_mk _ _ _ | exact GTxnGuard_row _ | exact GTxnGuard_mk _ _ _ | exact GTxnSum_row _ | exact GTxnSum_mk _ _ _) | with_reducible exact rfl | (refine z11 ?_; omega) | (refine z12 ?_; omega) | simp only [List.length_append, List.length_map, List.length_cons, List.length_nil, List.length_set, List.length_replicate])); (all_goals (fail_if_success (with_reducible show FZ _ _))); (all_goals (fail_if_success (with_reducible show List.contains _ _ = true))); (all_goals (fail_if_success (with_reducible show False))); (all_goals (fail_if_success (with_reducible show VSub _ _ _ _ _ _))))))))
    | ((with_reducible show CallL _ _ _ _);(first
      | ((first
      | (refine CallL.gv0 (sp_l1Key_c ?_) ?_ ?_;rotate_left 1)
      | (refine CallL.gv0 (sp_l1Val_c ?_) ?_ ?_;rotate_left 1)
      ); (focus ((repeat' (first | simp only [z1, z2, z3, Nat.reduceEqDiff, Nat.reduceLT, not_false_eq_true] | exact z28 | refine z29 ?_ ?_ | exact z31 | refine z32 ?_ ?_ | refine z30 ?_ | exact z33 | refine z34 rfl ?_ ?_ | refine z35 ?_ | exact z13 | exact z14 | exact z15 | exact z16 | refine z17 ?_ | refine z18 rfl ?_ | refine z19 rfl ?_ ?_ | (show lτ _ _ = some _; exact rfl) | exact z20 rfl rfl | refine z20 rfl ?_ | refine z21 ?_ | refine z23 ?_ | exact z24 | refine z25 ?_ rfl rfl ?_ | refine z22 ?_ | refine z26 ?_ rfl rfl ?_ ?_ | refine z27 ?_ rfl rfl ?_ ?_ ?_ | exact True.intro | exact z4 rfl | exact z5 | exact z6 | exact z7 | exact z8 | exact z9 | exact z10 | refine z36 ?_ | refine z37 rfl ?_ | exact z38 | exact z39 | refine z40 (xs := ?_) (ys := ?_) ?_ ?_ | refine z41 (xs := ?_) (ys := ?_) ?_ ?_ ?_ ?_ | refine z42 (xs := ?_) ?_ | refine z43 (xs := ?_) ?_ | refine z44 (x := ?_) (xs := ?_) ?_ ?_ | refine RowsAre.rep (x := ?_) (n := ?_) ?_ | (with_reducible show RowIs _ _ _; first | exact Int_row _ | exact Str_row _) | (with_reducible show RowIs _ _ _; first | exact GTxn_row _ | exact GTxn_mk _ _ _ | exact GTxnGuard_row _ | exact GTxnGuard_mk _ _ _ | exact GTxnSum_row _ | exact GTxnSum_mk _ _ _) | with_reducible exact rfl | (refine z11 ?_; omega) | (refine z12 ?_; omega) | simp only [List.length_append, List.length_map, List.length_cons, List.length_nil, List.length_set, List.length_replicate])); (all_goals (fail_if_success (with_reducible show FZ _ _))); (all_goals (fail_if_success (with_reducible show List.contains _ _ = true))); (all_goals (fail_if_success (with_reducible show False))); (all_goals (fail_if_success (with_reducible show VSub _ _ _ _ _ _))))))))
    | ((with_reducible show BackG _ _);(first
      | ((first
      | (guard_hyp t0;refine backR 4 (i + 1) (Ent.places [.slot 1] _ (by simp only [go_sem,reduceCtorEq,Nat.reduceAdd,Nat.reduceSub,Nat.reduceMul,Nat.reduceLeDiff,Nat.reduceLT,Nat.reduceEqDiff];rfl) rfl rfl (Nat.zero_le _) ?_ ?_) ?_ ?_;rotate_left 3;(focus ((try dsimp only);omega));rotate_right 3)
      | (guard_hyp t0;refine backR 10 (i4 + 1) (Ent.places [.slot 1] _ (by simp only [go_sem,reduceCtorEq,Nat.reduceAdd,Nat.reduceSub,Nat.reduceMul,Nat.reduceLeDiff,Nat.reduceLT,Nat.reduceEqDiff];rfl) rfl rfl (Nat.zero_le _) ?_ ?_) ?_ ?_;rotate_left 3;(focus ((try dsimp only);omega));rotate_right 3)
      | (guard_hyp t0;refine backR 16 (i6 + 1) (Ent.places [.slot 1] _ (by simp only [go_sem,reduceCtorEq,Nat.reduceAdd,Nat.reduceSub,Nat.reduceMul,Nat.reduceLeDiff,Nat.reduceLT,Nat.reduceEqDiff];rfl) rfl rfl (Nat.zero_le _) ?_ ?_) ?_ ?_;rotate_left 3;(focus ((try dsimp only);omega));rotate_right 3)
      ); (focus (repeat' (first | simp only [z1, z2, z3, Nat.reduceEqDiff, Nat.reduceLT, not_false_eq_true] | exact z28 | refine z29 ?_ ?_ | exact z31 | refine z32 ?_ ?_ | refine z30 ?_ | exact z33 | refine z34 rfl ?_ ?_ | refine z35 ?_ | exact z13 | exact z14 | exact z15 | exact z16 | refine z17 ?_ | refine z18 rfl ?_ | refine z19 rfl ?_ ?_ | (show lτ _ _ = some _; exact rfl) | exact z20 rfl rfl | refine z20 rfl ?_ | refine z21 ?_ | refine z23 ?_ | exact z24 | refine z25 ?_ rfl rfl ?_ | refine z22 ?_ | refine z26 ?_ rfl rfl ?_ ?_ | refine z27 ?_ rfl rfl ?_ ?_ ?_ | exact True.intro | exact z4 rfl | exact z5 | exact z6 | exact z7 | exact z8 | exact z9 | exact z10 | refine z36 ?_ | refine z37 rfl ?_ | exact z38 | exact z39 | refine z40 (xs := ?_) (ys := ?_) ?_ ?_ | refine z41 (xs := ?_) (ys := ?_) ?_ ?_ ?_ ?_ | refine z42 (xs := ?_) ?_ | refine z43 (xs := ?_) ?_ | refine z44 (x := ?_) (xs := ?_) ?_ ?_ | refine RowsAre.rep (x := ?_) (n := ?_) ?_ | (with_reducible show RowIs _ _ _; first | exact Int_row _ | exact Str_row _) | (with_reducible show RowIs _ _ _; first | exact GTxn_row _ | exact GTxn_mk _ _ _ | exact GTxnGuard_row _ | exact GTxnGuard_mk _ _ _ | exact GTxnSum_row _ | exact GTxnSum_mk _ _ _) | with_reducible exact rfl | (refine z11 ?_; omega) | (refine z12 ?_; omega) | simp only [List.length_append, List.length_map, List.length_cons, List.length_nil, List.length_set, List.length_replicate]))); (focus (repeat' (first | simp only [z1, z2, z3, Nat.reduceEqDiff, Nat.reduceLT, not_false_eq_true] | exact z28 | refine z29 ?_ ?_ | exact z31 | refine z32 ?_ ?_ | refine z30 ?_ | exact z33 | refine z34 rfl ?_ ?_ | refine z35 ?_ | exact z13 | exact z14 | exact z15 | exact z16 | refine z17 ?_ | refine z18 rfl ?_ | refine z19 rfl ?_ ?_ | (show lτ _ _ = some _; exact rfl) | exact z20 rfl rfl | refine z20 rfl ?_ | refine z21 ?_ | refine z23 ?_ | exact z24 | refine z25 ?_ rfl rfl ?_ | refine z22 ?_ | refine z26 ?_ rfl rfl ?_ ?_ | refine z27 ?_ rfl rfl ?_ ?_ ?_ | exact True.intro | exact z4 rfl | exact z5 | exact z6 | exact z7 | exact z8 | exact z9 | exact z10 | refine z36 ?_ | refine z37 rfl ?_ | exact z38 | exact z39 | refine z40 (xs := ?_) (ys := ?_) ?_ ?_ | refine z41 (xs := ?_) (ys := ?_) ?_ ?_ ?_ ?_ | refine z42 (xs := ?_) ?_ | refine z43 (xs := ?_) ?_ | refine z44 (x := ?_) (xs := ?_) ?_ ?_ | refine RowsAre.rep (x := ?_) (n := ?_) ?_ | (with_reducible show RowIs _ _ _; first | exact Int_row _ | exact Str_row _) | (with_reducible show RowIs _ _ _; first | exact GTxn_row _ | exact GTxn_mk _ _ _ | exact GTxnGuard_row _ | exact GTxnGuard_mk _ _ _ | exact GTxnSum_row _ | exact GTxnSum_mk _ _ _) | with_reducible exact rfl | (refine z11 ?_; omega) | (refine z12 ?_; omega) | simp only [List.length_append, List.length_map, List.length_cons, List.length_nil, List.length_set, List.length_replicate]))))
      | ((first
      | (guard_hyp t0;refine backR 4 (i + 1) (Ent.places [.slot 1] _ (by simp only [go_sem,reduceCtorEq,Nat.reduceAdd,Nat.reduceSub,Nat.reduceMul,Nat.reduceLeDiff,Nat.reduceLT,Nat.reduceEqDiff];rfl) rfl rfl (Nat.zero_le _) ?_ ?_) ?_ ?_)
      | (guard_hyp t0;refine backR 10 (i4 + 1) (Ent.places [.slot 1] _ (by simp only [go_sem,reduceCtorEq,Nat.reduceAdd,Nat.reduceSub,Nat.reduceMul,Nat.reduceLeDiff,Nat.reduceLT,Nat.reduceEqDiff];rfl) rfl rfl (Nat.zero_le _) ?_ ?_) ?_ ?_)
      | (guard_hyp t0;refine backR 16 (i6 + 1) (Ent.places [.slot 1] _ (by simp only [go_sem,reduceCtorEq,Nat.reduceAdd,Nat.reduceSub,Nat.reduceMul,Nat.reduceLeDiff,Nat.reduceLT,Nat.reduceEqDiff];rfl) rfl rfl (Nat.zero_le _) ?_ ?_) ?_ ?_)
      ); (focus (repeat' (first | simp only [z1, z2, z3, Nat.reduceEqDiff, Nat.reduceLT, not_false_eq_true] | exact z28 | refine z29 ?_ ?_ | exact z31 | refine z32 ?_ ?_ | refine z30 ?_ | exact z33 | refine z34 rfl ?_ ?_ | refine z35 ?_ | exact z13 | exact z14 | exact z15 | exact z16 | refine z17 ?_ | refine z18 rfl ?_ | refine z19 rfl ?_ ?_ | (show lτ _ _ = some _; exact rfl) | exact z20 rfl rfl | refine z20 rfl ?_ | refine z21 ?_ | refine z23 ?_ | exact z24 | refine z25 ?_ rfl rfl ?_ | refine z22 ?_ | refine z26 ?_ rfl rfl ?_ ?_ | refine z27 ?_ rfl rfl ?_ ?_ ?_ | exact True.intro | exact z4 rfl | exact z5 | exact z6 | exact z7 | exact z8 | exact z9 | exact z10 | refine z36 ?_ | refine z37 rfl ?_ | exact z38 | exact z39 | refine z40 (xs := ?_) (ys := ?_) ?_ ?_ | refine z41 (xs := ?_) (ys := ?_) ?_ ?_ ?_ ?_ | refine z42 (xs := ?_) ?_ | refine z43 (xs := ?_) ?_ | refine z44 (x := ?_) (xs := ?_) ?_ ?_ | refine RowsAre.rep (x := ?_) (n := ?_) ?_ | (with_reducible show RowIs _ _ _; first | exact Int_row _ | exact Str_row _) | (with_reducible show RowIs _ _ _; first | exact GTxn_row _ | exact GTxn_mk _ _ _ | exact GTxnGuard_row _ | exact GTxnGuard_mk _ _ _ | exact GTxnSum_row _ | exact GTxnSum_mk _ _ _) | with_reducible exact rfl | (refine z11 ?_; omega) | (refine z12 ?_; omega) | simp only [List.length_append, List.length_map, List.length_cons, List.length_nil, List.length_set, List.length_replicate]))); (focus (repeat' (first | simp only [z1, z2, z3, Nat.reduceEqDiff, Nat.reduceLT, not_false_eq_true] | exact z28 | refine z29 ?_ ?_ | exact z31 | refine z32 ?_ ?_ | refine z30 ?_ | exact z33 | refine z34 rfl ?_ ?_ | refine z35 ?_ | exact z13 | exact z14 | exact z15 | exact z16 | refine z17 ?_ | refine z18 rfl ?_ | refine z19 rfl ?_ ?_ | (show lτ _ _ = some _; exact rfl) | exact z20 rfl rfl | refine z20 rfl ?_ | refine z21 ?_ | refine z23 ?_ | exact z24 | refine z25 ?_ rfl rfl ?_ | refine z22 ?_ | refine z26 ?_ rfl rfl ?_ ?_ | refine z27 ?_ rfl rfl ?_ ?_ ?_ | exact True.intro | exact z4 rfl | exact z5 | exact z6 | exact z7 | exact z8 | exact z9 | exact z10 | refine z36 ?_ | refine z37 rfl ?_ | exact z38 | exact z39 | refine z40 (xs := ?_) (ys := ?_) ?_ ?_ | refine z41 (xs := ?_) (ys := ?_) ?_ ?_ ?_ ?_ | refine z42 (xs := ?_) ?_ | refine z43 (xs := ?_) ?_ | refine z44 (x := ?_) (xs := ?_) ?_ ?_ | refine RowsAre.rep (x := ?_) (n := ?_) ?_ | (with_reducible show RowIs _ _ _; first | exact Int_row _ | exact Str_row _) | (with_reducible show RowIs _ _ _; first | exact GTxn_row _ | exact GTxn_mk _ _ _ | exact GTxnGuard_row _ | exact GTxnGuard_mk _ _ _ | exact GTxnSum_row _ | exact GTxnSum_mk _ _ _) | with_reducible exact rfl | (refine z11 ?_; omega) | (refine z12 ?_; omega) | simp only [List.length_append, List.length_map, List.length_cons, List.length_nil, List.length_set, List.length_replicate]))); rotate_left 1; (focus ((try dsimp only); first | omega | (simp only [List.length_set, List.length_append, List.length_cons, List.length_nil]; omega))))))
    | ((with_reducible show EndK _ _ _ _ _ _ _);(first
      | ((guard_hyp t0;refine EndK.eqv (vs := ?_) (f := fun x : Bool => .lit (.bool x)) ?_ (by first|exact .inr rfl|exact .inl rfl) ?_ ?_ ?_;rotate_left 2);(focus (simp only [go_sem,reduceCtorEq,Nat.reduceAdd,Nat.reduceSub,Nat.reduceMul,Nat.reduceLeDiff,Nat.reduceLT,Nat.reduceEqDiff];exact rfl));(focus (repeat' (first|simp only [z1,z2,z3,Nat.reduceEqDiff,Nat.reduceLT,not_false_eq_true]|exact z28|refine z29 ?_ ?_|exact z31|refine z32 ?_ ?_|refine z30 ?_|exact z33|refine z34 rfl ?_ ?_|refine z35 ?_|exact z13|exact z14|exact z15|exact z16|refine z17 ?_|refine z18 rfl ?_|refine z19 rfl ?_ ?_|(show lτ _ _ = some _;exact rfl)|exact z20 rfl rfl|refine z20 rfl ?_|refine z21 ?_|refine z23 ?_|exact z24|refine z25 ?_ rfl rfl ?_|refine z22 ?_|refine z26 ?_ rfl rfl ?_ ?_|refine z27 ?_ rfl rfl ?_ ?_ ?_|exact True.intro|exact z4 rfl|exact z5|exact z6|exact z7|exact z8|exact z9|exact z10|refine z36 ?_|refine z37 rfl ?_|exact z38|exact z39|refine z40 (xs := ?_) (ys := ?_) ?_ ?_|refine z41 (xs := ?_) (ys := ?_) ?_ ?_ ?_ ?_|refine z42 (xs := ?_) ?_|refine z43 (xs := ?_) ?_|refine z44 (x := ?_) (xs := ?_) ?_ ?_|refine RowsAre.rep (x := ?_) (n := ?_) ?_|(with_reducible show RowIs _ _ _;first|exact Int_row _|exact Str_row _)|(with_reducible show RowIs _ _ _;first|exact GTxn_row _|exact GTxn_mk _ _ _|exact GTxnGuard_row _|exact GTxnGuard_mk _ _ _|exact GTxnSum_row _|exact GTxnSum_mk _ _ _)|with_reducible exact rfl|(refine z11 ?_;omega)|(refine z12 ?_;omega)|simp only [List.length_append,List.length_map,List.length_cons,List.length_nil,List.length_set,List.length_replicate]))))))
    | (refine h1 _ _ ?_;clear h1 K1)
    | (with_reducible refine GTxnGuard_ex _ _ _ ?_)
    | (with_reducible refine GTxnSum_ex _ _ _ ?_)
    | (with_reducible refine GInt_ex _ ?_)
    | refine And.intro ?_ ?_
    | ((first|with_reducible show (_ : Int) ≤ _|with_reducible show (_ : Int) < _|with_reducible show (_ : Int) = _|with_reducible show (_ : Nat) ≤ _|with_reducible show (_ : Nat) < _|with_reducible show (_ : Nat) = _|with_reducible show ¬ _|with_reducible show _ ≠ _|with_reducible show False);omega)
    | (intro h;(try simp only [decide_eq_true_eq,decide_eq_false_iff_not,Int.not_lt,Int.not_le,beq_iff_eq,bne_iff_ne,beq_eq_false_iff_ne,bne_eq_false_iff_eq,ne_eq,Bool.not_eq_true',Bool.not_eq_false',Decidable.not_not] at h);(try contradiction)))
  all_goals (try clear h1); all_goals (try clear K1); all_goals (try clear hK); all_goals (try clear K); all_goals (try dsimp only); all_goals (try simp only [Bool.not_eq_false', Bool.not_eq_true', decide_eq_true_eq, decide_eq_false_iff_not] at *); all_goals (try simp only [GTxn_eta, GTxnGuard_eta, GTxnSum_eta] at *)
  all_goals first
    | omega
    | (simp only [List.length_cons,List.length_nil,Nat.reduceAdd];done)
    | (simp only [List.length_set,List.length_append,List.length_cons,List.length_nil,List.length_map,List.length_take,List.length_drop];omega)
    | (obtain ⟨x,_,rfl⟩ := List.mem_map.1 (by assumption);rfl)
    | (obtain ⟨x,_,rfl⟩ := List.mem_map.1 (List.mem_of_mem_take (by assumption));rfl)
    | (obtain ⟨x,_,rfl⟩ := List.mem_map.1 (List.mem_of_mem_drop (List.mem_of_mem_take (by assumption)));rfl)
    | (simp (disch := omega) only [wr_id];omega)
    | (guard_hyp t0;first|(rw [sp_TxnOk_K1,sp_TxnOk_L1] at hM;rw [sp_TxnOk_K1];all_goals grind)|(rw [sp_TxnOk_K1,sp_TxnOk_L1] at hM;grind)|(rw [sp_TxnOk_K2,sp_TxnOk_L2] at hM;rw [sp_TxnOk_K2];all_goals grind)|(rw [sp_TxnOk_K2,sp_TxnOk_L2] at hM;grind)|(rw [sp_TxnOk_K3,sp_TxnOk_L3] at hM;rw [sp_TxnOk_K3];all_goals grind)|(rw [sp_TxnOk_K3,sp_TxnOk_L3] at hM;grind)|(rw [sp_TxnOk];all_goals first|grind|(repeat' split) <;> first|rfl|grind))
    | grind)
theorem sp_TxnOk_c : Ssp_TxnOk_c := layT21
end Go.Proofs.Ytghkelfpomfadaa
end
