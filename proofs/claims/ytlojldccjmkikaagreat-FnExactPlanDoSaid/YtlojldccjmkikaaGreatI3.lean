/- Contracts of slices.Insert and slices.Delete at table ranges, for lists whose lengths are bounded as stated. -/
import Derived.Test.YtlojldccjmkikaaGreatI2
set_option linter.unusedVariables false
set_option linter.unusedSimpArgs false
section
namespace Go.Proofs.YtlojldccjmkikaaGreat
open Go.Ae
theorem ins1 {β : Type 1} (A B : List β) (I n k q : Nat) (z : β) (hA : A.length = n) (hB : B.length = 1) (hI : I < n) (hq : q = I + 1) (hk : k = n + 1 - I) :
   List.take (I + 1 + (n - I)) (List.take q (List.take I (List.take (I - 0) A ++ List.replicate k z) ++ List.take (min 1 ((List.take (I - 0) A).length + k - I)) B ++ List.drop (I + (List.take (min 1 ((List.take (I - 0) A).length + k - I)) B).length) (List.take (I - 0) A ++ List.replicate k z))
     ++ List.take (min (n - I) ((List.take (I - 0) A).length + k - q)) (List.drop I A) ++ List.drop (q + (List.take (min (n - I) ((List.take (I - 0) A).length + k - q)) (List.drop I A)).length) (List.take I (List.take (I - 0) A ++ List.replicate k z) ++ List.take (min 1 ((List.take (I - 0) A).length + k - I)) B ++ List.drop (I + (List.take (min 1 ((List.take (I - 0) A).length + k - I)) B).length) (List.take (I - 0) A ++ List.replicate k z))) = List.take I A ++ B ++ List.drop I A := by
  have e1 : min 1 ((List.take (I - 0) A).length + k - I) = 1 := by simp only [List.length_take]; omega
  have e2 : min (n - I) ((List.take (I - 0) A).length + k - q) = n - I := by simp only [List.length_take]; omega
  have e3 : List.take 1 B = B := List.take_of_length_le (by omega)
  have e4 : List.take (n - I) (List.drop I A) = List.drop I A := List.take_of_length_le (by simp; omega)
  rw [e1, e2, e3, e4]
  generalize hX : List.take (I - 0) A ++ List.replicate k z = X
  have hXl : X.length = n + 1 := by rw [← hX]; simp only [List.length_append, List.length_take, List.length_replicate]; omega
  have hXt : List.take I X = List.take I A := by rw [← hX]; rw [List.take_append_of_le_length (by simp; omega)]; simp only [Nat.sub_zero, List.take_take, Nat.min_self]
  generalize hY : List.take I X ++ B ++ List.drop (I + B.length) X = Y
  have hYl : Y.length = n + 1 := by rw [← hY]; simp only [List.length_append, List.length_take, List.length_drop]; omega
  have hYt : List.take q Y = List.take I A ++ B := by rw [← hY, hXt]; rw [List.take_append_of_le_length (by simp; omega)]; exact List.take_of_length_le (by simp; omega)
  rw [hYt, List.take_append_of_le_length (by simp; omega)]
  exact List.take_of_length_le (by simp; omega)
theorem ins2 {β : Type 1} (A B : List β) (I n c q : Nat) (hA : A.length = n) (hB : B.length = 1) (hI : I < n) (hq : q = I + 1) (hc : c = n + 1) :
  List.take (I + 1 + (n - I)) (List.take I (List.take q A ++ List.take (min (c - 0 - I) (c - 0 - q)) (List.drop I A) ++ List.drop (q + (List.take (min (c - 0 - I) (c - 0 - q)) (List.drop I A)).length) A) ++ List.take (min 1 (c - 0 - I)) B ++ List.drop (I + (List.take (min 1 (c - 0 - I)) B).length) (List.take q A ++ List.take (min (c - 0 - I) (c - 0 - q)) (List.drop I A) ++ List.drop (q + (List.take (min (c - 0 - I) (c - 0 - q)) (List.drop I A)).length) A)) = List.take I A ++ B ++ List.drop I A := by
  have e1 : min 1 (c - 0 - I) = 1 := by omega
  have e2 : min (c - 0 - I) (c - 0 - q) = n - I := by omega
  have e3 : List.take 1 B = B := List.take_of_length_le (by omega)
  have e4 : List.take (n - I) (List.drop I A) = List.drop I A := List.take_of_length_le (by simp; omega)
  rw [e1, e2, e3, e4]
  generalize hY : List.take q A ++ List.drop I A ++ List.drop (q + (List.drop I A).length) A = Y
  have hd : List.drop (q + (List.drop I A).length) A = [] := List.drop_eq_nil_of_le (by simp; omega)
  rw [hd, List.append_nil] at hY
  have hYt : List.take I Y = List.take I A := by rw [← hY, List.take_append_of_le_length (by simp; omega), List.take_take, Nat.min_eq_left (by omega)]
  have hYd : List.drop (I + B.length) Y = List.drop I A := by
    rw [← hY, List.drop_append, List.drop_eq_nil_of_le (by simp; omega)]
    simp; omega
  rw [hYt, hYd]
  exact List.take_of_length_le (by simp; omega)
theorem imOk_ret (t : GTable) : ∀ (m : Nat) (lo : Int) (i : Nat), t.Ranges.length - i = m → im_TableOk_L1 t lo i ≠ .ret true := by
  intro m
  induction m with
  | zero => intro lo i h; rw [im_TableOk_L1, dif_neg (by omega)]; simp
  | succ m ih =>
    intro lo i h
    rw [im_TableOk_L1, dif_pos (by omega)]
    simp only []
    split
    · simp
    · exact ih _ (i + 1) (by omega)
theorem im_TableOk_len {t : GTable} (h : im_TableOk t = true) : t.Ranges.length ≤ 8 ∧ 1 ≤ t.Members ∧ t.Members ≤ 31 ∧ 1 ≤ t.Epoch ∧ t.Epoch ≤ 9999 := by
  have h0 := imOk_ret t _ 0 0 rfl
  simp only [im_TableOk, im_TableOk_K1] at h
  revert h h0
  cases im_TableOk_L1 t 0 0 with
  | ret r => intro h h0; simp only at h; subst h; exact absurd rfl h0
  | go q =>
    intro h h0
    simp only [Bool.and_eq_true, im_in_iff] at h
    omega
end Go.Proofs.YtlojldccjmkikaaGreat
end
section
namespace Go.Proofs.YtlojldccjmkikaaGreat
open Go.Ae
open Go.Ae renaming getR_eq → z1, getR_ne → z2, getR_nil → z3, lF_mk → z4, cont1 → z5, cont2a → z6, cont2b → z7, cont3a → z8, cont3b → z9, cont3c → z10, wr_up → z11, wr_dn → z12
open Go.Ae.VSub renaming any' → z13, same → z14, nilRd → z15, mtRd → z16, lit → z17, ptr' → z18, slD → z19, slNil → z20, agg' → z21, tup' → z22, fn' → z23, rpSame → z24, rpF → z25, frz → z26, frzC → z27, slCD → z28
open Go.Ae.LSub renaming nil' → z29, cons' → z30, mkR' → z31
open Go.Ae.SSub renaming nil' → z32, cons' → z33
open Go.Ae.HTell renaming nil' → z34, some' → z35, freshRows → z36
open Go.Ae.BSub renaming cells' → z37, pre → z38
open Go.Ae.RowsAre renaming map → z39
open Go.Ae.LenEq renaming mk → z40
open Go.Ae.BoolIs renaming mk → z41
set_option linter.unusedSimpArgs false
set_option linter.unusedVariables false
attribute [local irreducible] wr bitsOf VSub LSub SSub HTell BSub RowIs RowsAre Ent lF mkR
def slices_Delete_TableRange (s : List GTableRange) (i : Int) (j : Int) : (List GTableRange) :=
  s.take i.toNat ++ s.drop j.toNat
set_option maxRecDepth 10000 in
set_option maxHeartbeats 2000000 in
theorem slices_Delete_TableRange_c (s : List GTableRange) (i : Int) (j : Int) (hp0 : s.length ≤ 1000) (hp1 : 0 ≤ i) (hp2 : i ≤ j) (hp3 : j ≤ (s.length : Int)) : Does Tryz.prog 149 0 [.sl 0 3 0 s.length, .lit (.int .i64 i), .lit (.int .i64 j)] [some (.rows 3 (fun q => (encGTableRange q).map AV.r) s)] (fun vv H2 => vv = .sl 0 3 0 (slices_Delete_TableRange s i j).length ∧ H2 = [some (.rows 3 (fun q => (encGTableRange q).map AV.r) (slices_Delete_TableRange s i j))]) := by
  refine Does.goR Tryz.func149 Tryz.ntmps149 Tryz.results149 rfl (Nat.zero_le _) rfl ?_
  simp only [argR, Nat.reduceAdd]
  repeat' (first
    | (refine Tri.regSeq fun K hK => RegS.run ?_)
    | (refine Tri.reg fun K hK => RegS.run ?_)
    | (refine RegS.nil (hK _ _ ?_);clear hK K)
    | (refine QuietS.nil (hK _ _ ?_);clear hK K)
    | ((first|refine RegS.step fun K1 h1 => ?_|refine QuietS.step fun K1 h1 => ?_);simp only [go_sem,reduceCtorEq,Nat.reduceAdd,Nat.reduceSub,Nat.reduceMul,Nat.reduceLeDiff,Nat.reduceLT,Nat.reduceEqDiff])
    | (refine Tri.heavySeqN 5 rfl mixedP [] [2,6] [(0,0),(1,0),(3,0),(4,0),(5,0),(2,2),(6,2),(7,0)] (by kernel_rfl) fun K hK => ?_;simp only [ballOf,ballX,cellIds,Heap.at,List.getD_cons_zero,List.getD_cons_succ,List.nil_append,List.cons_append,idOf,z1,z2,Nat.reduceEqDiff,Nat.reduceLT,not_false_eq_true])
    | (refine Tri.heavyN 5 rfl mixedP [] [2,6] [(0,0),(1,0),(3,0),(4,0),(5,0),(2,2),(6,2),(7,0)] (by kernel_rfl) fun K hK => ?_;simp only [ballOf,ballX,cellIds,Heap.at,List.getD_cons_zero,List.getD_cons_succ,List.nil_append,List.cons_append,idOf,z1,z2,Nat.reduceEqDiff,Nat.reduceLT,not_false_eq_true])
    | (refine DrawS.nil (hK _ _ ?_);clear hK K)
    | (refine DrawS.step fun K1 h1 => ?_;simp only [go_sem,reduceCtorEq,Nat.reduceAdd,Nat.reduceSub,Nat.reduceMul,Nat.reduceLeDiff,Nat.reduceLT,Nat.reduceEqDiff])
    | (with_reducible refine GTableRange_ex _ _ _ ?_)
    | (refine h1 _ _ ?_;clear h1 K1)
    | refine And.intro ?_ ?_
    | (rw [if_pos ?_];rotate_left;focus (first|omega|omega))
    | omega
    | (refine Tri.cond (b := ?_) ?_ ?_ ?_;rotate_left 1;focus (simp only [ev,z1,z2,Nat.reduceEqDiff,Nat.reduceLT,not_false_eq_true];exact rfl))
    | (intro h;(try simp only [decide_eq_true_eq,decide_eq_false_iff_not,Int.not_lt,Int.not_le,beq_iff_eq,bne_iff_ne,beq_eq_false_iff_ne,bne_eq_false_iff_eq,ne_eq,Bool.not_eq_true',Bool.not_eq_false',Decidable.not_not] at h);(try contradiction))
    | (refine Tri.skip ?_;try change Tri _ _ _ _ _ _)
    | (refine Tri.exit ?_;try change Tri _ _ _ _ _ _)
    | refine Tri.ret ?_
    | refine Tri.block ?_
    | refine Tri.seq ?_
    | (refine EndK.eqq (p := 0) (vs := ?_) (f := fun x : (List GTableRange) => .sl 0 3 0 x.length) (g := fun x : (List GTableRange) => [some (.rows 3 (fun q => (encGTableRange q).map AV.r) x)]) (s.take i.toNat ++ s.drop j.toNat) [?_] (by first|exact .inr rfl|exact .inl rfl) ?_ ?_ ?_ (by simp) ?_ ?_ ?_
       rotate_left 2; (focus (simp only [go_sem, reduceCtorEq, Nat.reduceAdd, Nat.reduceSub, Nat.reduceMul, Nat.reduceLeDiff, Nat.reduceLT, Nat.reduceEqDiff]; exact rfl)); rotate_left 3; (focus (repeat' (first | simp only [z1, z2, z3, Nat.reduceEqDiff, Nat.reduceLT, not_false_eq_true] | exact z29 | refine z30 ?_ ?_ | exact z32 | refine z33 ?_ ?_ | refine z31 ?_ | exact z34 | refine z35 rfl ?_ ?_ | refine z36 ?_ | exact z13 | exact z14 | exact z15 | exact z16 | refine z17 ?_ | refine z18 rfl ?_ | refine z19 rfl ?_ ?_ | refine z28 rfl ?_ ?_ | (show lτ _ _ = some _; exact rfl) | exact z20 rfl rfl | refine z20 rfl ?_ | refine z21 ?_ | refine z23 ?_ | exact z24 | refine z25 ?_ rfl rfl ?_ | refine z22 ?_ | refine z26 ?_ rfl rfl ?_ ?_ | refine z27 ?_ rfl rfl ?_ ?_ ?_ | exact True.intro | exact z4 rfl | exact z5 | exact z6 | exact z7 | exact z8 | exact z9 | exact z10 | refine z37 ?_ | refine z38 (List.length ((s.take i.toNat ++ s.drop j.toNat))) rfl ?_ | exact z39 |       refine RowsAre.rep (x := ?_) (n := ?_) ?_ | exact GTableRange_row _ | exact GTableRange_mk _ _ _ | with_reducible exact rfl | (refine z11 ?_; omega) | (refine z12 ?_; omega) | simp only [List.length_append, List.length_map, List.length_cons, List.length_nil, List.length_set, List.length_replicate]))); rotate_right 1; (focus (repeat' (first | simp only [z1, z2, z3, Nat.reduceEqDiff, Nat.reduceLT, not_false_eq_true] | exact z29 | refine z30 ?_ ?_ | exact z32 | refine z33 ?_ ?_ | refine z31 ?_ | exact z34 | refine z35 rfl ?_ ?_ | refine z36 ?_ | exact z13 | exact z14 | exact z15 | exact z16 | refine z17 ?_ | refine z18 rfl ?_ | refine z19 rfl ?_ ?_ | refine z28 rfl ?_ ?_ | (show lτ _ _ = some _; exact rfl) | exact z20 rfl rfl | refine z20 rfl ?_ | refine z21 ?_ | refine z23 ?_ | exact z24 | refine z25 ?_ rfl rfl ?_ | refine z22 ?_ | refine z26 ?_ rfl rfl ?_ ?_ | refine z27 ?_ rfl rfl ?_ ?_ ?_ | exact True.intro | exact z4 rfl | exact z5 | exact z6 | exact z7 | exact z8 | exact z9 | exact z10 | refine z37 ?_ | refine z38 (List.length ((s.take i.toNat ++ s.drop j.toNat))) rfl ?_ | exact z39 |       refine RowsAre.rep (x := ?_) (n := ?_) ?_ | exact GTableRange_row _ | exact GTableRange_mk _ _ _ | with_reducible exact rfl | (refine z11 ?_; omega) | (refine z12 ?_; omega) | simp only [List.length_append, List.length_map, List.length_cons, List.length_nil, List.length_set, List.length_replicate]))); (all_goals (try (with_reducible refine z40 ?_); try with_reducible exact rfl)); (all_goals (try (with_reducible refine z41 ?_); exact rfl))))
  all_goals (try clear h1); all_goals (try clear K1); all_goals (try clear hK); all_goals (try clear K); all_goals (try dsimp only); all_goals (try simp only [Bool.not_eq_false', Bool.not_eq_true', decide_eq_true_eq, decide_eq_false_iff_not] at *); all_goals (try simp only [GTableRange_eta] at *)
  all_goals first
    | omega
    | (simp only [List.length_append,List.length_take,List.length_drop,List.length_map];omega)
    | (simp (disch := omega) only [wr_id,List.length_append,List.length_take,List.length_drop,List.length_map,List.length_replicate,List.length_cons,List.length_nil] at *;omega)
    | rfl
    | (refine RowsAre.of ?_;simp only [Blk.L,encGTableRange,List.map_cons,List.map_nil,List.map_append,List.map_take,List.map_drop];(try simp (disch := omega) only [wr_id]);generalize hA0 : List.map (fun q : GTableRange => [AV.r (RV.lit (Value.int IntKind.i64 q.Lo)),AV.r (RV.lit (Value.int IntKind.i64 q.Hi)),AV.r (RV.lit (Value.int IntKind.i64 q.Node))]) s = A0;have hl0 : A0.length = s.length := (by rw [← hA0,List.length_map]);clear hA0;apply List.ext_getElem?;intro n;grind)
    | (simp only [List.length_cons,List.length_nil,Nat.reduceAdd];done)
    | (simp only [List.length_set,List.length_append,List.length_cons,List.length_nil,List.length_map,List.length_take,List.length_drop];omega)
    | (obtain ⟨x,_,rfl⟩ := List.mem_map.1 (by assumption);rfl)
    | (obtain ⟨x,_,rfl⟩ := List.mem_map.1 (List.mem_of_mem_take (by assumption));rfl)
    | (obtain ⟨x,_,rfl⟩ := List.mem_map.1 (List.mem_of_mem_drop (List.mem_of_mem_take (by assumption)));rfl)
    | (simp (disch := omega) only [wr_id];omega)
    | (rw [slices_Delete_TableRange];all_goals first|grind|(repeat' split) <;> first|rfl|grind)
    | grind
def slices_Insert_TableRange (s : List GTableRange) (i : Int) (v : List GTableRange) : (List GTableRange) :=
  s.take i.toNat ++ v ++ s.drop i.toNat
set_option maxRecDepth 10000 in
set_option maxHeartbeats 2000000 in
theorem slices_Insert_TableRange_s0 (s : List GTableRange) (i : Int) (v : List GTableRange) (hp0 : s.length ≤ 1000) (hp1 : v.length ≤ 1000) (hp2 : 0 ≤ i) (hp3 : i ≤ (s.length : Int)) (hp4 : v.length = 1) (hp5 : s.length = 0) : Does Tryz.prog 147 0 [.sl 0 3 0 s.length, .lit (.int .i64 i), .sl 1 3 0 v.length] [some (.rows 3 (fun q => (encGTableRange q).map AV.r) s), some (.rows 3 (fun q => (encGTableRange q).map AV.r) v)] (fun vv H2 => vv = .sl 0 3 0 (slices_Insert_TableRange s i v).length ∧ H2 = [some (.rows 3 (fun q => (encGTableRange q).map AV.r) (slices_Insert_TableRange s i v))]) := by
  obtain rfl := List.length_eq_zero_iff.1 (by assumption) <;> (
  refine Does.goR Tryz.func147 Tryz.ntmps147 Tryz.results147 rfl (Nat.zero_le _) rfl ?_
  simp only [argR, Nat.reduceAdd]
  repeat' (first
    | (refine Tri.regSeq fun K hK => RegS.run ?_)
    | (refine Tri.reg fun K hK => RegS.run ?_)
    | (refine RegS.nil (hK _ _ ?_);clear hK K)
    | (refine QuietS.nil (hK _ _ ?_);clear hK K)
    | ((first|refine RegS.step fun K1 h1 => ?_|refine QuietS.step fun K1 h1 => ?_);simp only [go_sem,reduceCtorEq,Nat.reduceAdd,Nat.reduceSub,Nat.reduceMul,Nat.reduceLeDiff,Nat.reduceLT,Nat.reduceEqDiff])
    | (refine Tri.heavySeqN 11 rfl mixedP [] [8] [(0,0),(1,0),(2,0),(3,0),(4,0),(5,0),(6,0),(7,0),(8,2)] (by kernel_rfl) fun K hK => ?_;simp only [ballOf,ballX,cellIds,Heap.at,List.getD_cons_zero,List.getD_cons_succ,List.nil_append,List.cons_append,idOf,z1,z2,Nat.reduceEqDiff,Nat.reduceLT,not_false_eq_true])
    | (refine Tri.heavyN 11 rfl mixedP [] [8] [(0,0),(1,0),(2,0),(3,0),(4,0),(5,0),(6,0),(7,0),(8,2)] (by kernel_rfl) fun K hK => ?_;simp only [ballOf,ballX,cellIds,Heap.at,List.getD_cons_zero,List.getD_cons_succ,List.nil_append,List.cons_append,idOf,z1,z2,Nat.reduceEqDiff,Nat.reduceLT,not_false_eq_true])
    | (refine Tri.heavySeqN 15 rfl mixedP [] [8] [(0,0),(1,0),(2,0),(3,0),(4,0),(5,0),(6,0),(7,0),(8,2)] (by kernel_rfl) fun K hK => ?_;simp only [ballOf,ballX,cellIds,Heap.at,List.getD_cons_zero,List.getD_cons_succ,List.nil_append,List.cons_append,idOf,z1,z2,Nat.reduceEqDiff,Nat.reduceLT,not_false_eq_true])
    | (refine Tri.heavyN 15 rfl mixedP [] [8] [(0,0),(1,0),(2,0),(3,0),(4,0),(5,0),(6,0),(7,0),(8,2)] (by kernel_rfl) fun K hK => ?_;simp only [ballOf,ballX,cellIds,Heap.at,List.getD_cons_zero,List.getD_cons_succ,List.nil_append,List.cons_append,idOf,z1,z2,Nat.reduceEqDiff,Nat.reduceLT,not_false_eq_true])
    | (refine DrawS.nil (hK _ _ ?_);clear hK K)
    | (refine DrawS.step fun K1 h1 => ?_;simp only [go_sem,reduceCtorEq,Nat.reduceAdd,Nat.reduceSub,Nat.reduceMul,Nat.reduceLeDiff,Nat.reduceLT,Nat.reduceEqDiff])
    | (with_reducible refine GTableRange_ex _ _ _ ?_)
    | (refine h1 _ _ ?_;clear h1 K1)
    | refine And.intro ?_ ?_
    | (rw [if_pos ?_];rotate_left;focus (first|omega|(simp (disch := omega) only [wr_id,List.length_append,List.length_take,List.length_drop,List.length_map,List.length_replicate,List.length_cons,List.length_nil];omega)))
    | omega
    | (refine Tri.cond (b := ?_) ?_ ?_ ?_;rotate_left 1;focus (simp only [ev,z1,z2,Nat.reduceEqDiff,Nat.reduceLT,not_false_eq_true];exact rfl))
    | (intro h;(try simp only [decide_eq_true_eq,decide_eq_false_iff_not,Int.not_lt,Int.not_le,beq_iff_eq,bne_iff_ne,beq_eq_false_iff_ne,bne_eq_false_iff_eq,ne_eq,Bool.not_eq_true',Bool.not_eq_false',Decidable.not_not] at h);(try contradiction))
    | (refine Tri.skip ?_;try change Tri _ _ _ _ _ _)
    | (refine Tri.exit ?_;try change Tri _ _ _ _ _ _)
    | refine Tri.ret ?_
    | refine Tri.block ?_
    | refine Tri.seq ?_
    | (refine EndK.eqq (p := 0) (vs := ?_) (f := fun x : (List GTableRange) => .sl 0 3 0 x.length) (g := fun x : (List GTableRange) => [some (.rows 3 (fun q => (encGTableRange q).map AV.r) x)]) v [?_] (by first|exact .inr rfl|exact .inl rfl) ?_ ?_ ?_ (by simp) ?_ ?_ ?_
       rotate_left 2; (focus (simp only [go_sem, reduceCtorEq, Nat.reduceAdd, Nat.reduceSub, Nat.reduceMul, Nat.reduceLeDiff, Nat.reduceLT, Nat.reduceEqDiff]; exact rfl)); rotate_left 3; (focus (repeat' (first | simp only [z1, z2, z3, Nat.reduceEqDiff, Nat.reduceLT, not_false_eq_true] | exact z29 | refine z30 ?_ ?_ | exact z32 | refine z33 ?_ ?_ | refine z31 ?_ | exact z34 | refine z35 rfl ?_ ?_ | refine z36 ?_ | exact z13 | exact z14 | exact z15 | exact z16 | refine z17 ?_ | refine z18 rfl ?_ | refine z19 rfl ?_ ?_ | refine z28 rfl ?_ ?_ | (show lτ _ _ = some _; exact rfl) | exact z20 rfl rfl | refine z20 rfl ?_ | refine z21 ?_ | refine z23 ?_ | exact z24 | refine z25 ?_ rfl rfl ?_ | refine z22 ?_ | refine z26 ?_ rfl rfl ?_ ?_ | refine z27 ?_ rfl rfl ?_ ?_ ?_ | exact True.intro | exact z4 rfl | exact z5 | exact z6 | exact z7 | exact z8 | exact z9 | exact z10 | refine z37 ?_ | refine z38 (List.length (v)) rfl ?_ | exact z39 |       refine RowsAre.rep (x := ?_) (n := ?_) ?_ | exact GTableRange_row _ | exact GTableRange_mk _ _ _ | with_reducible exact rfl | (refine z11 ?_; omega) | (refine z12 ?_; omega) | simp only [List.length_append, List.length_map, List.length_cons, List.length_nil, List.length_set, List.length_replicate]))); rotate_right 1; (focus (repeat' (first | simp only [z1, z2, z3, Nat.reduceEqDiff, Nat.reduceLT, not_false_eq_true] | exact z29 | refine z30 ?_ ?_ | exact z32 | refine z33 ?_ ?_ | refine z31 ?_ | exact z34 | refine z35 rfl ?_ ?_ | refine z36 ?_ | exact z13 | exact z14 | exact z15 | exact z16 | refine z17 ?_ | refine z18 rfl ?_ | refine z19 rfl ?_ ?_ | refine z28 rfl ?_ ?_ | (show lτ _ _ = some _; exact rfl) | exact z20 rfl rfl | refine z20 rfl ?_ | refine z21 ?_ | refine z23 ?_ | exact z24 | refine z25 ?_ rfl rfl ?_ | refine z22 ?_ | refine z26 ?_ rfl rfl ?_ ?_ | refine z27 ?_ rfl rfl ?_ ?_ ?_ | exact True.intro | exact z4 rfl | exact z5 | exact z6 | exact z7 | exact z8 | exact z9 | exact z10 | refine z37 ?_ | refine z38 (List.length (v)) rfl ?_ | exact z39 |       refine RowsAre.rep (x := ?_) (n := ?_) ?_ | exact GTableRange_row _ | exact GTableRange_mk _ _ _ | with_reducible exact rfl | (refine z11 ?_; omega) | (refine z12 ?_; omega) | simp only [List.length_append, List.length_map, List.length_cons, List.length_nil, List.length_set, List.length_replicate]))); (all_goals (try (with_reducible refine z40 ?_); try with_reducible exact rfl)); (all_goals (try (with_reducible refine z41 ?_); exact rfl))))
  all_goals (try clear h1); all_goals (try clear K1); all_goals (try clear hK); all_goals (try clear K); all_goals (try dsimp only); all_goals (try simp only [Bool.not_eq_false', Bool.not_eq_true', decide_eq_true_eq, decide_eq_false_iff_not] at *); all_goals (try simp only [GTableRange_eta] at *)
  all_goals first
    | omega
    | (refine RowsAre.of ?_;simp [Blk.L,encGTableRange,List.take_of_length_le];done)
    | (simp [slices_Insert_TableRange];done)
    | (simp only [List.length_append,List.length_take,List.length_drop,List.length_map];omega)
    | (simp (disch := omega) only [wr_id,List.length_append,List.length_take,List.length_drop,List.length_map,List.length_replicate,List.length_cons,List.length_nil] at *;omega)
    | rfl
    | (refine RowsAre.of ?_;simp only [Blk.L,encGTableRange,List.map_cons,List.map_nil,List.map_append,List.map_take,List.map_drop];rw [show (List.take i.toNat s).length + v.length + (List.drop i.toNat s).length = i.toNat + 1 + (s.length - i.toNat) by simp only [List.length_take,List.length_drop];omega];rw [hp4];exact ins1 _ _ i.toNat s.length _ _ _ (by simp) (by simpa using hp4) (by omega) (by simp (disch := omega) only [wr_id];omega) (by simp (disch := omega) only [wr_id];omega))
    | (refine RowsAre.of ?_;simp only [Blk.L,encGTableRange,List.map_cons,List.map_nil,List.map_append,List.map_take,List.map_drop];rw [show (List.take i.toNat s).length + v.length + (List.drop i.toNat s).length = i.toNat + 1 + (s.length - i.toNat) by simp only [List.length_take,List.length_drop];omega];rw [hp4];exact ins2 _ _ i.toNat s.length _ _ (by simp) (by simpa using hp4) (by omega) (by simp (disch := omega) only [wr_id];omega) (by simp (disch := omega) only [wr_id];omega))
    | (refine RowsAre.of ?_;simp only [Blk.L,encGTableRange,List.map_cons,List.map_nil,List.map_append,List.map_take,List.map_drop];(try simp (disch := omega) only [wr_id]);generalize hA0 : List.map (fun q : GTableRange => [AV.r (RV.lit (Value.int IntKind.i64 q.Lo)),AV.r (RV.lit (Value.int IntKind.i64 q.Hi)),AV.r (RV.lit (Value.int IntKind.i64 q.Node))]) s = A0;have hl0 : A0.length = s.length := (by rw [← hA0,List.length_map]);clear hA0;generalize hA1 : List.map (fun q : GTableRange => [AV.r (RV.lit (Value.int IntKind.i64 q.Lo)),AV.r (RV.lit (Value.int IntKind.i64 q.Hi)),AV.r (RV.lit (Value.int IntKind.i64 q.Node))]) v = A1;have hl1 : A1.length = v.length := (by rw [← hA1,List.length_map]);clear hA1;apply List.ext_getElem?;intro n;grind)
    | (simp only [List.length_take,List.length_map];omega)
    | (simp only [List.length_cons,List.length_nil,Nat.reduceAdd];done)
    | (simp only [List.length_set,List.length_append,List.length_cons,List.length_nil,List.length_map,List.length_take,List.length_drop];omega)
    | (obtain ⟨x,_,rfl⟩ := List.mem_map.1 (by assumption);rfl)
    | (obtain ⟨x,_,rfl⟩ := List.mem_map.1 (List.mem_of_mem_take (by assumption));rfl)
    | (obtain ⟨x,_,rfl⟩ := List.mem_map.1 (List.mem_of_mem_drop (List.mem_of_mem_take (by assumption)));rfl)
    | (simp (disch := omega) only [wr_id];omega)
    | (rw [slices_Insert_TableRange];all_goals first|grind|(repeat' split) <;> first|rfl|grind)
    | grind)
set_option maxRecDepth 10000 in
set_option maxHeartbeats 2000000 in
theorem slices_Insert_TableRange_s1 (s : List GTableRange) (i : Int) (v : List GTableRange) (hp0 : s.length ≤ 1000) (hp1 : v.length ≤ 1000) (hp2 : 0 ≤ i) (hp3 : i ≤ (s.length : Int)) (hp4 : v.length = 1) (hp5 : 0 < s.length) : Does Tryz.prog 147 0 [.sl 0 3 0 s.length, .lit (.int .i64 i), .sl 1 3 0 v.length] [some (.rows 3 (fun q => (encGTableRange q).map AV.r) s), some (.rows 3 (fun q => (encGTableRange q).map AV.r) v)] (fun vv H2 => vv = .sl 0 3 0 (slices_Insert_TableRange s i v).length ∧ H2 = [some (.rows 3 (fun q => (encGTableRange q).map AV.r) (slices_Insert_TableRange s i v))]) := by
  refine Does.slcHead (by omega) fun cap0 hcap0 => ?_
  refine Does.goR Tryz.func147 Tryz.ntmps147 Tryz.results147 rfl (Nat.zero_le _) rfl ?_
  simp only [argR, Nat.reduceAdd]
  repeat' (first
    | (refine Tri.regSeq fun K hK => RegS.run ?_)
    | (refine Tri.reg fun K hK => RegS.run ?_)
    | (refine RegS.nil (hK _ _ ?_);clear hK K)
    | (refine QuietS.nil (hK _ _ ?_);clear hK K)
    | ((first|refine RegS.step fun K1 h1 => ?_|refine QuietS.step fun K1 h1 => ?_);simp only [go_sem,reduceCtorEq,Nat.reduceAdd,Nat.reduceSub,Nat.reduceMul,Nat.reduceLeDiff,Nat.reduceLT,Nat.reduceEqDiff])
    | (refine Tri.heavySeqN 11 rfl mixedP [] [8] [(0,0),(1,0),(2,0),(3,0),(4,0),(5,0),(6,0),(7,0),(8,2)] (by kernel_rfl) fun K hK => ?_;simp only [ballOf,ballX,cellIds,Heap.at,List.getD_cons_zero,List.getD_cons_succ,List.nil_append,List.cons_append,idOf,z1,z2,Nat.reduceEqDiff,Nat.reduceLT,not_false_eq_true])
    | (refine Tri.heavyN 11 rfl mixedP [] [8] [(0,0),(1,0),(2,0),(3,0),(4,0),(5,0),(6,0),(7,0),(8,2)] (by kernel_rfl) fun K hK => ?_;simp only [ballOf,ballX,cellIds,Heap.at,List.getD_cons_zero,List.getD_cons_succ,List.nil_append,List.cons_append,idOf,z1,z2,Nat.reduceEqDiff,Nat.reduceLT,not_false_eq_true])
    | (refine Tri.heavySeqN 15 rfl mixedP [] [8] [(0,0),(1,0),(2,0),(3,0),(4,0),(5,0),(6,0),(7,0),(8,2)] (by kernel_rfl) fun K hK => ?_;simp only [ballOf,ballX,cellIds,Heap.at,List.getD_cons_zero,List.getD_cons_succ,List.nil_append,List.cons_append,idOf,z1,z2,Nat.reduceEqDiff,Nat.reduceLT,not_false_eq_true])
    | (refine Tri.heavyN 15 rfl mixedP [] [8] [(0,0),(1,0),(2,0),(3,0),(4,0),(5,0),(6,0),(7,0),(8,2)] (by kernel_rfl) fun K hK => ?_;simp only [ballOf,ballX,cellIds,Heap.at,List.getD_cons_zero,List.getD_cons_succ,List.nil_append,List.cons_append,idOf,z1,z2,Nat.reduceEqDiff,Nat.reduceLT,not_false_eq_true])
    | (refine DrawS.nil (hK _ _ ?_);clear hK K)
    | (refine DrawS.step fun K1 h1 => ?_;simp only [go_sem,reduceCtorEq,Nat.reduceAdd,Nat.reduceSub,Nat.reduceMul,Nat.reduceLeDiff,Nat.reduceLT,Nat.reduceEqDiff])
    | (with_reducible refine GTableRange_ex _ _ _ ?_)
    | (refine h1 _ _ ?_;clear h1 K1)
    | refine And.intro ?_ ?_
    | (rw [if_pos ?_];rotate_left;focus (first|omega|(simp (disch := omega) only [wr_id,List.length_append,List.length_take,List.length_drop,List.length_map,List.length_replicate,List.length_cons,List.length_nil];omega)))
    | omega
    | (refine Tri.cond (b := ?_) ?_ ?_ ?_;rotate_left 1;focus (simp only [ev,z1,z2,Nat.reduceEqDiff,Nat.reduceLT,not_false_eq_true];exact rfl))
    | (intro h;(try simp only [decide_eq_true_eq,decide_eq_false_iff_not,Int.not_lt,Int.not_le,beq_iff_eq,bne_iff_ne,beq_eq_false_iff_ne,bne_eq_false_iff_eq,ne_eq,Bool.not_eq_true',Bool.not_eq_false',Decidable.not_not] at h);(try contradiction))
    | (refine Tri.skip ?_;try change Tri _ _ _ _ _ _)
    | (refine Tri.exit ?_;try change Tri _ _ _ _ _ _)
    | refine Tri.ret ?_
    | refine Tri.block ?_
    | refine Tri.seq ?_
    | (refine EndK.eqq (p := 0) (vs := ?_) (f := fun x : (List GTableRange) => .sl 0 3 0 x.length) (g := fun x : (List GTableRange) => [some (.rows 3 (fun q => (encGTableRange q).map AV.r) x)]) (s.take i.toNat ++ v ++ s.drop i.toNat) [?_] (by first|exact .inr rfl|exact .inl rfl) ?_ ?_ ?_ (by simp) ?_ ?_ ?_
       rotate_left 2; (focus (simp only [go_sem, reduceCtorEq, Nat.reduceAdd, Nat.reduceSub, Nat.reduceMul, Nat.reduceLeDiff, Nat.reduceLT, Nat.reduceEqDiff]; exact rfl)); rotate_left 3; (focus (repeat' (first | simp only [z1, z2, z3, Nat.reduceEqDiff, Nat.reduceLT, not_false_eq_true] | exact z29 | refine z30 ?_ ?_ | exact z32 | refine z33 ?_ ?_ | refine z31 ?_ | exact z34 | refine z35 rfl ?_ ?_ | refine z36 ?_ | exact z13 | exact z14 | exact z15 | exact z16 | refine z17 ?_ | refine z18 rfl ?_ | refine z19 rfl ?_ ?_ | refine z28 rfl ?_ ?_ | (show lτ _ _ = some _; exact rfl) | exact z20 rfl rfl | refine z20 rfl ?_ | refine z21 ?_ | refine z23 ?_ | exact z24 | refine z25 ?_ rfl rfl ?_ | refine z22 ?_ | refine z26 ?_ rfl rfl ?_ ?_ | refine z27 ?_ rfl rfl ?_ ?_ ?_ | exact True.intro | exact z4 rfl | exact z5 | exact z6 | exact z7 | exact z8 | exact z9 | exact z10 | refine z37 ?_ | refine z38 (List.length ((s.take i.toNat ++ v ++ s.drop i.toNat))) rfl ?_ | exact z39 |       refine RowsAre.rep (x := ?_) (n := ?_) ?_ | exact GTableRange_row _ | exact GTableRange_mk _ _ _ | with_reducible exact rfl | (refine z11 ?_; omega) | (refine z12 ?_; omega) | simp only [List.length_append, List.length_map, List.length_cons, List.length_nil, List.length_set, List.length_replicate]))); rotate_right 1; (focus (repeat' (first | simp only [z1, z2, z3, Nat.reduceEqDiff, Nat.reduceLT, not_false_eq_true] | exact z29 | refine z30 ?_ ?_ | exact z32 | refine z33 ?_ ?_ | refine z31 ?_ | exact z34 | refine z35 rfl ?_ ?_ | refine z36 ?_ | exact z13 | exact z14 | exact z15 | exact z16 | refine z17 ?_ | refine z18 rfl ?_ | refine z19 rfl ?_ ?_ | refine z28 rfl ?_ ?_ | (show lτ _ _ = some _; exact rfl) | exact z20 rfl rfl | refine z20 rfl ?_ | refine z21 ?_ | refine z23 ?_ | exact z24 | refine z25 ?_ rfl rfl ?_ | refine z22 ?_ | refine z26 ?_ rfl rfl ?_ ?_ | refine z27 ?_ rfl rfl ?_ ?_ ?_ | exact True.intro | exact z4 rfl | exact z5 | exact z6 | exact z7 | exact z8 | exact z9 | exact z10 | refine z37 ?_ | refine z38 (List.length ((s.take i.toNat ++ v ++ s.drop i.toNat))) rfl ?_ | exact z39 |       refine RowsAre.rep (x := ?_) (n := ?_) ?_ | exact GTableRange_row _ | exact GTableRange_mk _ _ _ | with_reducible exact rfl | (refine z11 ?_; omega) | (refine z12 ?_; omega) | simp only [List.length_append, List.length_map, List.length_cons, List.length_nil, List.length_set, List.length_replicate]))); (all_goals (try (with_reducible refine z40 ?_); try with_reducible exact rfl)); (all_goals (try (with_reducible refine z41 ?_); exact rfl))))
  all_goals (try clear h1); all_goals (try clear K1); all_goals (try clear hK); all_goals (try clear K); all_goals (try dsimp only); all_goals (try simp only [Bool.not_eq_false', Bool.not_eq_true', decide_eq_true_eq, decide_eq_false_iff_not] at *); all_goals (try simp only [GTableRange_eta] at *)
  all_goals first
    | omega
    | (simp only [List.length_append,List.length_take,List.length_drop,List.length_map];omega)
    | (simp (disch := omega) only [wr_id,List.length_append,List.length_take,List.length_drop,List.length_map,List.length_replicate,List.length_cons,List.length_nil] at *;omega)
    | rfl
    | (refine RowsAre.of ?_;simp only [Blk.L,encGTableRange,List.map_cons,List.map_nil,List.map_append,List.map_take,List.map_drop];rw [show (List.take i.toNat s).length + v.length + (List.drop i.toNat s).length = i.toNat + 1 + (s.length - i.toNat) by simp only [List.length_take,List.length_drop];omega];rw [hp4];exact ins1 _ _ i.toNat s.length _ _ _ (by simp) (by simpa using hp4) (by omega) (by simp (disch := omega) only [wr_id];omega) (by simp (disch := omega) only [wr_id];omega))
    | (refine RowsAre.of ?_;simp only [Blk.L,encGTableRange,List.map_cons,List.map_nil,List.map_append,List.map_take,List.map_drop];rw [show (List.take i.toNat s).length + v.length + (List.drop i.toNat s).length = i.toNat + 1 + (s.length - i.toNat) by simp only [List.length_take,List.length_drop];omega];rw [hp4];exact ins2 _ _ i.toNat s.length _ _ (by simp) (by simpa using hp4) (by omega) (by simp (disch := omega) only [wr_id];omega) (by simp (disch := omega) only [wr_id];omega))
    | (refine RowsAre.of ?_;simp only [Blk.L,encGTableRange,List.map_cons,List.map_nil,List.map_append,List.map_take,List.map_drop];(try simp (disch := omega) only [wr_id]);generalize hA0 : List.map (fun q : GTableRange => [AV.r (RV.lit (Value.int IntKind.i64 q.Lo)),AV.r (RV.lit (Value.int IntKind.i64 q.Hi)),AV.r (RV.lit (Value.int IntKind.i64 q.Node))]) s = A0;have hl0 : A0.length = s.length := (by rw [← hA0,List.length_map]);clear hA0;generalize hA1 : List.map (fun q : GTableRange => [AV.r (RV.lit (Value.int IntKind.i64 q.Lo)),AV.r (RV.lit (Value.int IntKind.i64 q.Hi)),AV.r (RV.lit (Value.int IntKind.i64 q.Node))]) v = A1;have hl1 : A1.length = v.length := (by rw [← hA1,List.length_map]);clear hA1;apply List.ext_getElem?;intro n;grind)
    | (simp only [List.length_cons,List.length_nil,Nat.reduceAdd];done)
    | (simp only [List.length_set,List.length_append,List.length_cons,List.length_nil,List.length_map,List.length_take,List.length_drop];omega)
    | (obtain ⟨x,_,rfl⟩ := List.mem_map.1 (by assumption);rfl)
    | (obtain ⟨x,_,rfl⟩ := List.mem_map.1 (List.mem_of_mem_take (by assumption));rfl)
    | (obtain ⟨x,_,rfl⟩ := List.mem_map.1 (List.mem_of_mem_drop (List.mem_of_mem_take (by assumption)));rfl)
    | (simp (disch := omega) only [wr_id];omega)
    | (rw [slices_Insert_TableRange];all_goals first|grind|(repeat' split) <;> first|rfl|grind)
    | grind
theorem slices_Insert_TableRange_c (s : List GTableRange) (i : Int) (v : List GTableRange) (hp0 : s.length ≤ 1000) (hp1 : v.length ≤ 1000) (hp2 : 0 ≤ i) (hp3 : i ≤ (s.length : Int)) (hp4 : v.length = 1) : Does Tryz.prog 147 0 [.sl 0 3 0 s.length, .lit (.int .i64 i), .sl 1 3 0 v.length] [some (.rows 3 (fun q => (encGTableRange q).map AV.r) s), some (.rows 3 (fun q => (encGTableRange q).map AV.r) v)] (fun vv H2 => vv = .sl 0 3 0 (slices_Insert_TableRange s i v).length ∧ H2 = [some (.rows 3 (fun q => (encGTableRange q).map AV.r) (slices_Insert_TableRange s i v))]) := by
  by_cases hs : s.length = 0
  · exact slices_Insert_TableRange_s0 s i v hp0 hp1 hp2 hp3 hp4 hs
  · exact slices_Insert_TableRange_s1 s i v hp0 hp1 hp2 hp3 hp4 (by omega)
end Go.Proofs.YtlojldccjmkikaaGreat
end
