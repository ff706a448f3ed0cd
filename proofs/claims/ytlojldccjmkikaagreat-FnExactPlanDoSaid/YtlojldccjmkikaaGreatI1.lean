/- Contracts of functions of the program on tables, for lists whose lengths are bounded as stated. -/
import Derived.Test.YtlojldccjmkikaaGreatG4
set_option linter.unusedVariables false
set_option linter.unusedSimpArgs false
section
namespace Go.Proofs.YtlojldccjmkikaaGreat
open Go.Ae
open Go.Ae renaming getR_eq → z1, getR_ne → z2, getR_nil → z3, lF_mk → z4, cont1 → z5, cont2a → z6, cont2b → z7, cont3a → z8, cont3b → z9, cont3c → z10, wr_up → z11, wr_dn → z12
open Go.Ae.VSub renaming any' → z13, same → z14, nilRd → z15, mtRd → z16, lit → z17, ptr' → z18, sl' → z19, slNil → z20, agg' → z21, tup' → z22, fn' → z23, rpSame → z24, rpF → z25, frz → z26, frzC → z27
open Go.Ae.LSub renaming nil' → z28, cons' → z29, mkR' → z30
open Go.Ae.SSub renaming nil' → z31, cons' → z32
open Go.Ae.HTell renaming nil' → z33, some' → z34, freshRows → z35
open Go.Ae.BSub renaming cells' → z36, own → z37
open Go.Ae.RowsAre renaming map → z38, nil → z39, app → z40, spl → z41, take → z42, drop → z43, cons → z44
set_option linter.unusedSimpArgs false
set_option linter.unusedVariables false
attribute [local irreducible] wr bitsOf VSub LSub SSub HTell BSub RowIs RowsAre Ent lF mkR
def im_in (n : Int) (low : Int) (high : Int) : Bool :=
  ((decide (n ≥ low)) && (decide (n ≤ high)))
def im_isNode (n : Int) : Bool :=
  (im_in n 0 4)
def Sim_in_c : Prop := ∀ (n : Int) (low : Int) (high : Int), Gives Tryz.prog 33 [.lit (.int .i64 n), .lit (.int .i64 low), .lit (.int .i64 high)] (.lit (.bool (im_in n low high)))
def Sim_isNode_c : Prop := ∀ (n : Int), Gives Tryz.prog 68 [.lit (.int .i64 n)] (.lit (.bool (im_isNode n)))
set_option maxRecDepth 10000 in
set_option maxHeartbeats 4000000 in
theorem layI01 : (Sim_in_c) ∧ (Sim_in_c → Sim_isNode_c) := by
  refine ⟨fun n low high => have t0 := tg 0; Does.goR Tryz.func33 Tryz.ntmps33 Tryz.results33 rfl (Nat.zero_le _) rfl ?_,
    fun im_in_c n => have t1 := tg 1; Does.goR Tryz.func68 Tryz.ntmps68 Tryz.results68 rfl (Nat.zero_le _) rfl ?_⟩
  all_goals (
  simp only [argR, Nat.reduceAdd]
  repeat' (first
    | (refine Tri.regSeq fun K hK => RegS.run ?_)
    | (refine Tri.reg fun K hK => RegS.run ?_)
    | (refine RegS.nil (hK _ _ ?_);clear hK K)
    | (refine QuietS.nil (hK _ _ ?_);clear hK K)
    | ((first|refine RegS.step fun K1 h1 => ?_|refine QuietS.step fun K1 h1 => ?_);simp only [go_sem,reduceCtorEq,Nat.reduceAdd,Nat.reduceSub,Nat.reduceMul,Nat.reduceLeDiff,Nat.reduceLT,Nat.reduceEqDiff])
    | (refine h1 _ _ ?_;clear h1 K1)
    | refine And.intro ?_ ?_
    | ((refine CallA.gv0 (im_in_c ?_ ?_ ?_) ?_ ?_;rotate_left 3);(focus ((repeat' (first|simp only [z1,z2,z3,Nat.reduceEqDiff,Nat.reduceLT,not_false_eq_true]|exact z28|refine z29 ?_ ?_|exact z31|refine z32 ?_ ?_|refine z30 ?_|exact z33|refine z34 rfl ?_ ?_|refine z35 ?_|exact z13|exact z14|exact z15|exact z16|refine z17 ?_|refine z18 rfl ?_|refine z19 rfl ?_ ?_|(show lτ _ _ = some _;exact rfl)|exact z20 rfl rfl|refine z20 rfl ?_|refine z21 ?_|refine z23 ?_|exact z24|refine z25 ?_ rfl rfl ?_|refine z22 ?_|refine z26 ?_ rfl rfl ?_ ?_|refine z27 ?_ rfl rfl ?_ ?_ ?_|exact True.intro|exact z4 rfl|exact z5|exact z6|exact z7|exact z8|exact z9|exact z10|refine z36 ?_|refine z37 rfl ?_|exact z38|exact z39|refine z40 (xs := ?_) (ys := ?_) ?_ ?_|refine z41 (xs := ?_) (ys := ?_) ?_ ?_ ?_ ?_|refine z42 (xs := ?_) ?_|refine z43 (xs := ?_) ?_|refine z44 (x := ?_) (xs := ?_) ?_ ?_|refine RowsAre.rep (x := ?_) (n := ?_) ?_|with_reducible exact rfl|(refine z11 ?_;omega)|(refine z12 ?_;omega)|simp only [List.length_append,List.length_map,List.length_cons,List.length_nil,List.length_set,List.length_replicate]));(all_goals (fail_if_success (with_reducible show FZ _ _)));(all_goals (fail_if_success (with_reducible show List.contains _ _ = true)));(all_goals (fail_if_success (with_reducible show False)));(all_goals (fail_if_success (with_reducible show VSub _ _ _ _ _ _))))))
    | ((refine CallL.gv0 (im_in_c ?_ ?_ ?_) ?_ ?_;rotate_left 3);(focus ((repeat' (first|simp only [z1,z2,z3,Nat.reduceEqDiff,Nat.reduceLT,not_false_eq_true]|exact z28|refine z29 ?_ ?_|exact z31|refine z32 ?_ ?_|refine z30 ?_|exact z33|refine z34 rfl ?_ ?_|refine z35 ?_|exact z13|exact z14|exact z15|exact z16|refine z17 ?_|refine z18 rfl ?_|refine z19 rfl ?_ ?_|(show lτ _ _ = some _;exact rfl)|exact z20 rfl rfl|refine z20 rfl ?_|refine z21 ?_|refine z23 ?_|exact z24|refine z25 ?_ rfl rfl ?_|refine z22 ?_|refine z26 ?_ rfl rfl ?_ ?_|refine z27 ?_ rfl rfl ?_ ?_ ?_|exact True.intro|exact z4 rfl|exact z5|exact z6|exact z7|exact z8|exact z9|exact z10|refine z36 ?_|refine z37 rfl ?_|exact z38|exact z39|refine z40 (xs := ?_) (ys := ?_) ?_ ?_|refine z41 (xs := ?_) (ys := ?_) ?_ ?_ ?_ ?_|refine z42 (xs := ?_) ?_|refine z43 (xs := ?_) ?_|refine z44 (x := ?_) (xs := ?_) ?_ ?_|refine RowsAre.rep (x := ?_) (n := ?_) ?_|with_reducible exact rfl|(refine z11 ?_;omega)|(refine z12 ?_;omega)|simp only [List.length_append,List.length_map,List.length_cons,List.length_nil,List.length_set,List.length_replicate]));(all_goals (fail_if_success (with_reducible show FZ _ _)));(all_goals (fail_if_success (with_reducible show List.contains _ _ = true)));(all_goals (fail_if_success (with_reducible show False)));(all_goals (fail_if_success (with_reducible show VSub _ _ _ _ _ _))))))
    | ((refine CallA.lend (im_in_c ?_ ?_ ?_) rfl ?_ ?_;rotate_left 3);(focus ((repeat' (first|simp only [z1,z2,z3,Nat.reduceEqDiff,Nat.reduceLT,not_false_eq_true]|exact z28|refine z29 ?_ ?_|exact z31|refine z32 ?_ ?_|refine z30 ?_|exact z33|refine z34 rfl ?_ ?_|refine z35 ?_|exact z13|exact z14|exact z15|exact z16|refine z17 ?_|refine z18 rfl ?_|refine z19 rfl ?_ ?_|(show lτ _ _ = some _;exact rfl)|exact z20 rfl rfl|refine z20 rfl ?_|refine z21 ?_|refine z23 ?_|exact z24|refine z25 ?_ rfl rfl ?_|refine z22 ?_|refine z26 ?_ rfl rfl ?_ ?_|refine z27 ?_ rfl rfl ?_ ?_ ?_|exact True.intro|exact z4 rfl|exact z5|exact z6|exact z7|exact z8|exact z9|exact z10|refine z36 ?_|refine z37 rfl ?_|exact z38|exact z39|refine z40 (xs := ?_) (ys := ?_) ?_ ?_|refine z41 (xs := ?_) (ys := ?_) ?_ ?_ ?_ ?_|refine z42 (xs := ?_) ?_|refine z43 (xs := ?_) ?_|refine z44 (x := ?_) (xs := ?_) ?_ ?_|refine RowsAre.rep (x := ?_) (n := ?_) ?_|with_reducible exact rfl|(refine z11 ?_;omega)|(refine z12 ?_;omega)|simp only [List.length_append,List.length_map,List.length_cons,List.length_nil,List.length_set,List.length_replicate]));(all_goals (fail_if_success (with_reducible show FZ _ _)));(all_goals (fail_if_success (with_reducible show List.contains _ _ = true)));(all_goals (fail_if_success (with_reducible show False)));(all_goals (fail_if_success (with_reducible show VSub _ _ _ _ _ _))))))
    | omega
    | (refine Tri.cond (b := ?_) ?_ ?_ ?_;rotate_left 1;focus (simp only [ev,z1,z2,Nat.reduceEqDiff,Nat.reduceLT,not_false_eq_true];exact rfl))
    | (intro h;(try simp only [decide_eq_true_eq,decide_eq_false_iff_not,Int.not_lt,Int.not_le,beq_iff_eq,bne_iff_ne,beq_eq_false_iff_ne,bne_eq_false_iff_eq,ne_eq,Bool.not_eq_true',Bool.not_eq_false',Decidable.not_not] at h);(try contradiction))
    | (refine Tri.skip ?_;try change Tri _ _ _ _ _ _)
    | (refine Tri.exit ?_;try change Tri _ _ _ _ _ _)
    | refine Tri.ret ?_
    | refine Tri.block ?_
    | refine Tri.seq ?_
    | ((first
      | (guard_hyp t0;refine EndK.eqv (vs := ?_) (f := fun x : Bool => .lit (.bool x)) ?_ (by first|exact .inr rfl|exact .inl rfl) ?_ ?_ ?_;rotate_left 2)
      | (guard_hyp t1;refine EndK.eqv (vs := ?_) (f := fun x : Bool => .lit (.bool x)) ?_ (by first|exact .inr rfl|exact .inl rfl) ?_ ?_ ?_;rotate_left 2)
      ); (focus (simp only [go_sem, reduceCtorEq, Nat.reduceAdd, Nat.reduceSub, Nat.reduceMul, Nat.reduceLeDiff, Nat.reduceLT, Nat.reduceEqDiff]; exact rfl)); (focus (repeat' (first | simp only [z1, z2, z3, Nat.reduceEqDiff, Nat.reduceLT, not_false_eq_true] | exact z28 | refine z29 ?_ ?_ | exact z31 | refine z32 ?_ ?_ | refine z30 ?_ | exact z33 | refine z34 rfl ?_ ?_ | refine z35 ?_ | exact z13 | exact z14 | exact z15 | exact z16 | refine z17 ?_ | refine z18 rfl ?_ | refine z19 rfl ?_ ?_ | (show lτ _ _ = some _; exact rfl) | exact z20 rfl rfl | refine z20 rfl ?_ | refine z21 ?_ | refine z23 ?_ | exact z24 | refine z25 ?_ rfl rfl ?_ | refine z22 ?_ | refine z26 ?_ rfl rfl ?_ ?_ | refine z27 ?_ rfl rfl ?_ ?_ ?_ | exact True.intro | exact z4 rfl | exact z5 | exact z6 | exact z7 | exact z8 | exact z9 | exact z10 | refine z36 ?_ | refine z37 rfl ?_ | exact z38 | exact z39 | refine z40 (xs := ?_) (ys := ?_) ?_ ?_ | refine z41 (xs := ?_) (ys := ?_) ?_ ?_ ?_ ?_ | refine z42 (xs := ?_) ?_ | refine z43 (xs := ?_) ?_ | refine z44 (x := ?_) (xs := ?_) ?_ ?_ | refine RowsAre.rep (x := ?_) (n := ?_) ?_ | with_reducible exact rfl | (refine z11 ?_; omega) | (refine z12 ?_; omega) | simp only [List.length_append, List.length_map, List.length_cons, List.length_nil, List.length_set, List.length_replicate])))))
  all_goals (try clear h1); all_goals (try clear K1); all_goals (try clear hK); all_goals (try clear K); all_goals (try dsimp only); all_goals (try simp only [Bool.not_eq_false', Bool.not_eq_true', decide_eq_true_eq, decide_eq_false_iff_not] at *); skip; all_goals (try clear im_in_c)
  all_goals first
    | omega
    | (simp only [List.length_cons,List.length_nil,Nat.reduceAdd];done)
    | (simp only [List.length_set,List.length_append,List.length_cons,List.length_nil,List.length_map,List.length_take,List.length_drop];omega)
    | (obtain ⟨x,_,rfl⟩ := List.mem_map.1 (by assumption);rfl)
    | (obtain ⟨x,_,rfl⟩ := List.mem_map.1 (List.mem_of_mem_take (by assumption));rfl)
    | (obtain ⟨x,_,rfl⟩ := List.mem_map.1 (List.mem_of_mem_drop (List.mem_of_mem_take (by assumption)));rfl)
    | (simp (disch := omega) only [wr_id];omega)
    | (guard_hyp t0;first|(rw [im_in];all_goals first|grind|(repeat' split) <;> first|rfl|grind))
    | (guard_hyp t1;first|(rw [im_isNode];all_goals first|grind|(repeat' split) <;> first|rfl|grind))
    | grind)
theorem im_in_c : Sim_in_c := layI01.1
theorem im_isNode_c : Sim_isNode_c := layI01.2 im_in_c
end Go.Proofs.YtlojldccjmkikaaGreat
end
section
namespace Go.Proofs.YtlojldccjmkikaaGreat
open Go.Ae
theorem im_in_iff {n a b : Int} : im_in n a b = true ↔ a ≤ n ∧ n ≤ b := by simp [im_in]
theorem im_in_eq (n a b : Int) : im_in n a b = sp_l6In n a b := rfl
theorem im_isNode_bd {n : Int} (h : im_isNode n = true) : 0 ≤ n ∧ n ≤ 4 := by
  unfold im_isNode at h; exact im_in_iff.1 h
theorem pow2_pos (n : Nat) : (0 : Int) < 2 ^ n := Int.pow_pos (by decide)
theorem tdiv_bd {a b : Int} (h0 : 0 ≤ a) (hb : 0 < b) : 0 ≤ a.tdiv b ∧ a.tdiv b ≤ a := by
  rw [Int.tdiv_eq_ediv_of_nonneg h0]
  exact ⟨Int.ediv_nonneg h0 (by omega), Int.ediv_le_self _ h0⟩
theorem and_one {x : Int} (h0 : 0 ≤ x) (h1 : x ≤ 9223372036854775807) : bitsOf .and .i64 x 1 = x % 2 := by
  have e1 : (BitVec.ofInt 64 x).toNat = x.toNat := by
    rw [BitVec.toNat_ofInt]
    have : x % ((2 ^ 64 : Nat) : Int) = x := Int.emod_eq_of_lt h0 (by
      have : ((2 ^ 64 : Nat) : Int) = 18446744073709551616 := by decide
      omega)
    rw [this]
  have e2 : (BitVec.ofInt 64 1).toNat = 1 := by decide
  have e3 : (BitVec.ofInt 64 x &&& BitVec.ofInt 64 1).toNat = x.toNat % 2 := by
    rw [BitVec.toNat_and, e1, e2, Nat.and_one_is_mod]
  show IntKind.i64.wrap ((BitVec.ofInt 64 x &&& BitVec.ofInt 64 1).toNat : Int) = x % 2
  rw [e3]
  have h2 : ((x.toNat % 2 : Nat) : Int) = x % 2 := by omega
  rw [h2]
  exact wr_id (n := x % 2) (by omega) (by omega)
theorem fdiv_tdiv {a b : Int} (h0 : 0 ≤ a) (hb : 0 < b) : a.fdiv b = a.tdiv b := by
  rw [Int.tdiv_eq_ediv_of_nonneg h0, Int.fdiv_eq_ediv_of_nonneg _ (by omega)]
end Go.Proofs.YtlojldccjmkikaaGreat
end
section
namespace Go.Proofs.YtlojldccjmkikaaGreat
open Go.Ae
open Go.Ae renaming getR_eq → z1, getR_ne → z2, getR_nil → z3, lF_mk → z4, cont1 → z5, cont2a → z6, cont2b → z7, cont3a → z8, cont3b → z9, cont3c → z10, wr_up → z11, wr_dn → z12
open Go.Ae.VSub renaming any' → z13, same → z14, nilRd → z15, mtRd → z16, lit → z17, ptr' → z18, sl' → z19, slD → z20, slNil → z21, agg' → z22, tup' → z23, fn' → z24, rpSame → z25, rpF → z26, frz → z27, frzC → z28
open Go.Ae.LSub renaming nil' → z29, cons' → z30, mkR' → z31
open Go.Ae.SSub renaming nil' → z32, cons' → z33
open Go.Ae.HTell renaming nil' → z34, some' → z35, freshRows → z36
open Go.Ae.BSub renaming cells' → z37, own → z38
open Go.Ae.RowsAre renaming map → z39, nil → z40, app → z41, spl → z42, take → z43, drop → z44, cons → z45
open Go.Ae.CallA renaming gv0 → z46, lend → z47
open Go.Ae.LenEq renaming mk → z48
open Go.Ae.BoolIs renaming mk → z49
set_option linter.unusedSimpArgs false
set_option linter.unusedVariables false
attribute [local irreducible] wr bitsOf VSub LSub SSub HTell BSub RowIs RowsAre Ent lF mkR
def im_has (bits : Int) (node : Int) : Bool :=
  ((im_isNode node) && ((bitsOf .and .i64 (bits.fdiv (2 ^ (min (node).toNat 64))) 1) == 1))
def im_TableOk_L1 (t : GTable) (lo : Int) (ix1 : Nat) : Fl (Bool) (Int) :=
  if h0 : ((ix1 : Int) < (t.Ranges.length : Int)) then
      let r := (t.Ranges.getD ix1 default)
      if (((r.Lo ≠ lo) ∨ ((im_in r.Hi (wr .i64 (lo + 1)) 40) = false)) ∨ ((im_has t.Members r.Node) = false)) then
        .ret false
      else 
        let lo := r.Hi
        im_TableOk_L1 t lo (ix1 + 1)
  else .go lo
termination_by ((t.Ranges.length : Int) - (ix1 : Int)).toNat
decreasing_by all_goals omega
def im_TableOk_K1 (t : GTable) (lo : Int) (ix1 : Nat) : Bool :=
  match im_TableOk_L1 t lo ix1 with
  | .ret rr => rr
  | .go q =>
    let lo := q
    ((((im_in t.Epoch 1 9999) && (im_in t.Members 1 31)) && (im_in (t.Ranges.length : Int) 1 8)) && (lo == 40))
def im_TableOk (t : GTable) : Bool :=
  let lo := 0
  let ix1 : Nat := 0
  im_TableOk_K1 t lo ix1
def im_Table_rangeOf_1 (r : GTableRange) (cap0 : Int) : Bool :=
  (im_in cap0 r.Lo (wr .i64 (r.Hi - 1)))
def slices_IndexFunc_TableRange_f_im_Table_rangeOf_1_L1 (s : List GTableRange) (fn1_0 : Int) (ix1 : Nat) : Fl (Int) (Unit) :=
  if h0 : ((ix1 : Int) < (s.length : Int)) then
      let i := (ix1 : Int)
      if ((im_Table_rangeOf_1 (s.getD i.toNat default) fn1_0) = true) then
        .ret i
      else 
        slices_IndexFunc_TableRange_f_im_Table_rangeOf_1_L1 s fn1_0 (ix1 + 1)
  else .go ()
termination_by ((s.length : Int) - (ix1 : Int)).toNat
decreasing_by all_goals omega
def slices_IndexFunc_TableRange_f_im_Table_rangeOf_1_K1 (s : List GTableRange) (fn1_0 : Int) (ix1 : Nat) : Int :=
  match slices_IndexFunc_TableRange_f_im_Table_rangeOf_1_L1 s fn1_0 ix1 with
  | .ret rr => rr
  | .go q =>
    (-1)
def slices_IndexFunc_TableRange_f_im_Table_rangeOf_1 (s : List GTableRange) (fn1_0 : Int) : Int :=
  let ix1 : Nat := 0
  slices_IndexFunc_TableRange_f_im_Table_rangeOf_1_K1 s fn1_0 ix1
def im_Table_rangeOf (t : GTable) (key : Int) : Int :=
  (slices_IndexFunc_TableRange_f_im_Table_rangeOf_1 t.Ranges key)
def Sim_has_c : Prop := ∀ (bits : Int) (node : Int), Gives Tryz.prog 122 [.lit (.int .i64 bits), .lit (.int .i64 node)] (.lit (.bool (im_has bits node)))
def Sim_TableOk_c : Prop := ∀ (t : GTable) (hp0 : t.Ranges.length ≤ 2147483648), Gives Tryz.prog 95 [.agg [.lit (.int .i64 t.Epoch), .lit (.int .i64 t.Members), .r (.rd 3 encGTableRange t.Ranges)]] (.lit (.bool (im_TableOk t)))
def Sim_Table_rangeOf_1_c : Prop := ∀ (r : GTableRange) (cap0 : Int), Gives Tryz.prog 164 [.agg [.lit (.int .i64 r.Lo), .lit (.int .i64 r.Hi), .lit (.int .i64 r.Node)], .rp 1 encInt [cap0] 0 0] (.lit (.bool (im_Table_rangeOf_1 r cap0)))
def Sslices_IndexFunc_TableRange_f_im_Table_rangeOf_1_c : Prop := ∀ (s : List GTableRange) (fn1_0 : Int) (hp0 : s.length ≤ 2147483648), Gives Tryz.prog 163 [.r (.rd 3 encGTableRange s), .fn 164 [.rp 1 encInt [fn1_0] 0 0]] (.lit (.int .i64 (slices_IndexFunc_TableRange_f_im_Table_rangeOf_1 s fn1_0)))
def Sim_Table_rangeOf_c : Prop := ∀ (t : GTable) (key : Int) (hp0 : t.Ranges.length ≤ 2147483648), Gives Tryz.prog 146 [.agg [.lit (.int .i64 t.Epoch), .lit (.int .i64 t.Members), .r (.rd 3 encGTableRange t.Ranges)], .lit (.int .i64 key)] (.lit (.int .i64 (im_Table_rangeOf t key)))
set_option maxRecDepth 10000 in
set_option maxHeartbeats 10000000 in
theorem layI11 : (Sim_has_c) ∧ (Sim_has_c → Sim_TableOk_c) ∧ (Sim_Table_rangeOf_1_c) ∧ (Sim_Table_rangeOf_1_c → Sslices_IndexFunc_TableRange_f_im_Table_rangeOf_1_c) ∧ (Sslices_IndexFunc_TableRange_f_im_Table_rangeOf_1_c → Sim_Table_rangeOf_c) := by
  refine ⟨fun bits node => have t0 := tg 0; Does.goR Tryz.func122 Tryz.ntmps122 Tryz.results122 rfl (Nat.zero_le _) rfl ?_,
    fun im_has_c t hp0 => have t1 := tg 1; Does.goR Tryz.func95 Tryz.ntmps95 Tryz.results95 rfl (Nat.zero_le _) rfl ?_,
    fun r cap0 => have t2 := tg 2; Does.goR Tryz.func164 Tryz.ntmps164 Tryz.results164 rfl (Nat.zero_le _) rfl ?_,
    fun im_Table_rangeOf_1_c s fn1_0 hp0 => have t3 := tg 3; Does.goR Tryz.func163 Tryz.ntmps163 Tryz.results163 rfl (Nat.zero_le _) rfl ?_,
    fun slices_IndexFunc_TableRange_f_im_Table_rangeOf_1_c t key hp0 => have t4 := tg 4; Does.goR Tryz.func146 Tryz.ntmps146 Tryz.results146 rfl (Nat.zero_le _) rfl ?_⟩
  all_goals (
  simp only [argR, Nat.reduceAdd]
  repeat' (first
    | (refine Tri.regSeq fun K hK => RegS.run ?_)
    | (refine Tri.reg fun K hK => RegS.run ?_)
    | (refine RegS.nil (hK _ _ ?_);clear hK K)
    | (refine QuietS.nil (hK _ _ ?_);clear hK K)
    | ((first|refine RegS.step fun K1 h1 => ?_|refine QuietS.step fun K1 h1 => ?_);simp only [go_sem,reduceCtorEq,Nat.reduceAdd,Nat.reduceSub,Nat.reduceMul,Nat.reduceLeDiff,Nat.reduceLT,Nat.reduceEqDiff])
    | (with_reducible refine GTableRange_ex _ _ _ ?_)
    | (refine h1 _ _ ?_;clear h1 K1)
    | refine And.intro ?_ ?_
    | ((first
      | (refine z46 (im_isNode_c ?_) ?_ ?_;rotate_left 1)
      | (refine z46 (im_in_c ?_ ?_ ?_) ?_ ?_;rotate_left 3)
      | (refine z46 (im_has_c ?_ ?_) ?_ ?_;rotate_left 2)
      | (refine z46 (im_Table_rangeOf_1_c ⟨?_,?_,?_⟩ ?_) ?_ ?_;rotate_left 4)
      | (refine z46 (slices_IndexFunc_TableRange_f_im_Table_rangeOf_1_c ?_ ?_ ?_) ?_ ?_;rotate_left 3)
      ); (focus ((repeat' (first | simp only [z1, z2, z3, Nat.reduceEqDiff, Nat.reduceLT, not_false_eq_true] | exact z29 | refine z30 ?_ ?_ | exact z32 | refine z33 ?_ ?_ | refine z31 ?_ | exact z34 | refine z35 rfl ?_ ?_ | refine z36 ?_ | exact z13 | exact z14 | exact z15 | exact z16 | refine z17 ?_ | refine z18 rfl ?_ | refine z19 rfl ?_ ?_ | (show lτ _ _ = some _; exact rfl) | exact z21 rfl rfl | refine z21 rfl ?_ | refine z22 ?_ | refine z24 ?_ | exact z25 | refine z26 ?_ rfl rfl ?_ | refine z23 ?_ | refine z27 ?_ rfl rfl ?_ ?_ | refine z28 ?_ rfl rfl ?_ ?_ ?_ | exact True.intro | exact z4 rfl | exact z5 | exact z6 | exact z7 | exact z8 | exact z9 | exact z10 | refine z37 ?_ | refine z38 rfl ?_ | exact z39 | exact z40 | refine z41 (xs := ?_) (ys := ?_) ?_ ?_ | refine z42 (xs := ?_) (ys := ?_) ?_ ?_ ?_ ?_ | refine z43 (xs := ?_) ?_ | refine z44 (xs := ?_) ?_ | refine z45 (x := ?_) (xs := ?_) ?_ ?_ | refine RowsAre.rep (x := ?_) (n := ?_) ?_ | (with_reducible show RowIs _ _ _; first | exact GTable_row _ | exact GTable_mk _ _ _ | exact GTableRange_row _ | exact GTableRange_mk _ _ _) | with_reducible exact rfl | (refine z11 ?_; omega) | (refine z12 ?_; omega) | simp only [List.length_append, List.length_map, List.length_cons, List.length_nil, List.length_set, List.length_replicate])); (all_goals (fail_if_success (with_reducible show FZ _ _))); (all_goals (fail_if_success (with_reducible show List.contains _ _ = true))); (all_goals (fail_if_success (with_reducible show False))); (all_goals (fail_if_success (with_reducible show VSub _ _ _ _ _ _))))))
    | ((first
      | (refine CallL.gv0 (im_isNode_c ?_) ?_ ?_;rotate_left 1)
      | (refine CallL.gv0 (im_in_c ?_ ?_ ?_) ?_ ?_;rotate_left 3)
      | (refine CallL.gv0 (im_has_c ?_ ?_) ?_ ?_;rotate_left 2)
      | (refine CallL.gv0 (im_Table_rangeOf_1_c ⟨?_,?_,?_⟩ ?_) ?_ ?_;rotate_left 4)
      | (refine CallL.gv0 (slices_IndexFunc_TableRange_f_im_Table_rangeOf_1_c ?_ ?_ ?_) ?_ ?_;rotate_left 3)
      ); (focus ((repeat' (first | simp only [z1, z2, z3, Nat.reduceEqDiff, Nat.reduceLT, not_false_eq_true] | exact z29 | refine z30 ?_ ?_ | exact z32 | refine z33 ?_ ?_ | refine z31 ?_ | exact z34 | refine z35 rfl ?_ ?_ | refine z36 ?_ | exact z13 | exact z14 | exact z15 | exact z16 | refine z17 ?_ | refine z18 rfl ?_ | refine z19 rfl ?_ ?_ | (show lτ _ _ = some _; exact rfl) | exact z21 rfl rfl | refine z21 rfl ?_ | refine z22 ?_ | refine z24 ?_ | exact z25 | refine z26 ?_ rfl rfl ?_ | refine z23 ?_ | refine z27 ?_ rfl rfl ?_ ?_ | refine z28 ?_ rfl rfl ?_ ?_ ?_ | exact True.intro | exact z4 rfl | exact z5 | exact z6 | exact z7 | exact z8 | exact z9 | exact z10 | refine z37 ?_ | refine z38 rfl ?_ | exact z39 | exact z40 | refine z41 (xs := ?_) (ys := ?_) ?_ ?_ | refine z42 (xs := ?_) (ys := ?_) ?_ ?_ ?_ ?_ | refine z43 (xs := ?_) ?_ | refine z44 (xs := ?_) ?_ | refine z45 (x := ?_) (xs := ?_) ?_ ?_ | refine RowsAre.rep (x := ?_) (n := ?_) ?_ | (with_reducible show RowIs _ _ _; first | exact GTable_row _ | exact GTable_mk _ _ _ | exact GTableRange_row _ | exact GTableRange_mk _ _ _) | with_reducible exact rfl | (refine z11 ?_; omega) | (refine z12 ?_; omega) | simp only [List.length_append, List.length_map, List.length_cons, List.length_nil, List.length_set, List.length_replicate])); (all_goals (fail_if_success (with_reducible show FZ _ _))); (all_goals (fail_if_success (with_reducible show List.contains _ _ = true))); (all_goals (fail_if_success (with_reducible show False))); (all_goals (fail_if_success (with_reducible show VSub _ _ _ _ _ _))))))
    | ((first
      | (refine z47 (im_isNode_c ?_) rfl ?_ ?_;rotate_left 1)
      | (refine z47 (im_in_c ?_ ?_ ?_) rfl ?_ ?_;rotate_left 3)
      | (refine z47 (im_has_c ?_ ?_) rfl ?_ ?_;rotate_left 2)
      | (refine z47 (im_Table_rangeOf_1_c ⟨?_,?_,?_⟩ ?_) rfl ?_ ?_;rotate_left 4)
      | (refine z47 (slices_IndexFunc_TableRange_f_im_Table_rangeOf_1_c ?_ ?_ ?_) rfl ?_ ?_;rotate_left 3)
      ); (focus ((repeat' (first | simp only [z1, z2, z3, Nat.reduceEqDiff, Nat.reduceLT, not_false_eq_true] | exact z29 | refine z30 ?_ ?_ | exact z32 | refine z33 ?_ ?_ | refine z31 ?_ | exact z34 | refine z35 rfl ?_ ?_ | refine z36 ?_ | exact z13 | exact z14 | exact z15 | exact z16 | refine z17 ?_ | refine z18 rfl ?_ | refine z19 rfl ?_ ?_ | (show lτ _ _ = some _; exact rfl) | exact z21 rfl rfl | refine z21 rfl ?_ | refine z22 ?_ | refine z24 ?_ | exact z25 | refine z26 ?_ rfl rfl ?_ | refine z23 ?_ | refine z27 ?_ rfl rfl ?_ ?_ | refine z28 ?_ rfl rfl ?_ ?_ ?_ | exact True.intro | exact z4 rfl | exact z5 | exact z6 | exact z7 | exact z8 | exact z9 | exact z10 | refine z37 ?_ | refine z38 rfl ?_ | exact z39 | exact z40 | refine z41 (xs := ?_) (ys := ?_) ?_ ?_ | refine z42 (xs := ?_) (ys := ?_) ?_ ?_ ?_ ?_ | refine z43 (xs := ?_) ?_ | refine z44 (xs := ?_) ?_ | refine z45 (x := ?_) (xs := ?_) ?_ ?_ | refine RowsAre.rep (x := ?_) (n := ?_) ?_ | (with_reducible show RowIs _ _ _; first | exact GTable_row _ | exact GTable_mk _ _ _ | exact GTableRange_row _ | exact GTableRange_mk _ _ _) | with_reducible exact rfl | (refine z11 ?_; omega) | (refine z12 ?_; omega) | simp only [List.length_append, List.length_map, List.length_cons, List.length_nil, List.length_set, List.length_replicate])); (all_goals (fail_if_success (with_reducible show FZ _ _))); (all_goals (fail_if_success (with_reducible show List.contains _ _ = true))); (all_goals (fail_if_success (with_reducible show False))); (all_goals (fail_if_success (with_reducible show VSub _ _ _ _ _ _))))))
    | omega
    | (refine Tri.cond (b := ?_) ?_ ?_ ?_;rotate_left 1;focus (simp only [ev,z1,z2,Nat.reduceEqDiff,Nat.reduceLT,not_false_eq_true];exact rfl))
    | (intro h;(try simp only [decide_eq_true_eq,decide_eq_false_iff_not,Int.not_lt,Int.not_le,beq_iff_eq,bne_iff_ne,beq_eq_false_iff_ne,bne_eq_false_iff_eq,ne_eq,Bool.not_eq_true',Bool.not_eq_false',Decidable.not_not] at h);(try contradiction))
    | (refine Tri.skip ?_;try change Tri _ _ _ _ _ _)
    | (refine Tri.exit ?_;try change Tri _ _ _ _ _ _)
    | refine Tri.ret ?_
    | refine Tri.block ?_
    | refine Tri.seq ?_
    | ((first
      | (guard_hyp t1;refine Tri.loopN (ι := Int × Nat) 3 rfl (fun j => mkR 54 [(1,.ptr 0 3 0 0),(3,.lit (.int .i64 j.1)),(7,.r (.rd 3 encGTableRange t.Ranges)),(8,.lit (.int .i64 (t.Ranges.length : Int))),(9,.lit (.int .i64 (j.2 : Int)))]) (fun j => [some (.cells [.lit (.int .i64 t.Epoch),.lit (.int .i64 t.Members),.r (.rd 3 encGTableRange t.Ranges)])]) (fun j => im_TableOk_K1 t j.1 j.2 = im_TableOk t ∧ (j.2 : Int) ≤ (t.Ranges.length : Int)) (fun j => ((t.Ranges.length : Int) - (j.2 : Int)).toNat) (?_,0) (Ent.places [.slot 1] _ (by simp only [go_sem,reduceCtorEq,Nat.reduceAdd,Nat.reduceSub,Nat.reduceMul,Nat.reduceLeDiff,Nat.reduceLT,Nat.reduceEqDiff];rfl) rfl rfl (Nat.zero_le _) ?_ ?_) ?_ ?_;rotate_left 4;(focus (rintro ⟨lo,ix1⟩ ⟨hM,hI⟩;(try dsimp only at hM hI)));rotate_right 3)
      | (guard_hyp t3;refine Tri.loopN (ι := Nat) 2 rfl (fun j => mkR 19 [(0,.r (.rd 3 encGTableRange s)),(1,.fn 164 [.rp 1 encInt [fn1_0] 0 0]),(6,.r (.rd 3 encGTableRange s)),(7,.lit (.int .i64 (s.length : Int))),(8,.lit (.int .i64 (j : Int)))]) (fun j => []) (fun j => slices_IndexFunc_TableRange_f_im_Table_rangeOf_1_K1 s fn1_0 j = slices_IndexFunc_TableRange_f_im_Table_rangeOf_1 s fn1_0 ∧ (j : Int) ≤ (s.length : Int)) (fun j => ((s.length : Int) - (j : Int)).toNat) 0 (Ent.places [] _ (by simp only [go_sem,reduceCtorEq,Nat.reduceAdd,Nat.reduceSub,Nat.reduceMul,Nat.reduceLeDiff,Nat.reduceLT,Nat.reduceEqDiff];rfl) rfl rfl (Nat.zero_le _) ?_ ?_) ?_ ?_;rotate_left 3;(focus (rintro ix1 ⟨hM,hI⟩;(try dsimp only at hM hI)));rotate_right 3)
      ); (focus (repeat' (first | simp only [z1, z2, z3, Nat.reduceEqDiff, Nat.reduceLT, not_false_eq_true] | exact z29 | refine z30 ?_ ?_ | exact z32 | refine z33 ?_ ?_ | refine z31 ?_ | exact z34 | refine z35 rfl ?_ ?_ | refine z36 ?_ | exact z13 | exact z14 | exact z15 | exact z16 | refine z17 ?_ | refine z18 rfl ?_ | refine z19 rfl ?_ ?_ | (show lτ _ _ = some _; exact rfl) | exact z21 rfl rfl | refine z21 rfl ?_ | refine z22 ?_ | refine z24 ?_ | exact z25 | refine z26 ?_ rfl rfl ?_ | refine z23 ?_ | refine z27 ?_ rfl rfl ?_ ?_ | refine z28 ?_ rfl rfl ?_ ?_ ?_ | exact True.intro | exact z4 rfl | exact z5 | exact z6 | exact z7 | exact z8 | exact z9 | exact z10 | refine z37 ?_ | refine z38 rfl ?_ | exact z39 | exact z40 | refine z41 (xs := ?_) (ys := ?_) ?_ ?_ | refine z42 (xs := ?_) (ys := ?_) ?_ ?_ ?_ ?_ | refine z43 (xs := ?_) ?_ | refine z44 (xs := ?_) ?_ | refine z45 (x := ?_) (xs := ?_) ?_ ?_ | refine RowsAre.rep (x := ?_) (n := ?_) ?_ | (with_reducible show RowIs _ _ _; first | exact GTable_row _ | exact GTable_mk _ _ _ | exact GTableRange_row _ | exact GTableRange_mk _ _ _) | with_reducible exact rfl | (refine z11 ?_; omega) | (refine z12 ?_; omega) | simp only [List.length_append, List.length_map, List.length_cons, List.length_nil, List.length_set, List.length_replicate]))); (focus (repeat' (first | simp only [z1, z2, z3, Nat.reduceEqDiff, Nat.reduceLT, not_false_eq_true] | exact z29 | refine z30 ?_ ?_ | exact z32 | refine z33 ?_ ?_ | refine z31 ?_ | exact z34 | refine z35 rfl ?_ ?_ | refine z36 ?_ | exact z13 | exact z14 | exact z15 | exact z16 | refine z17 ?_ | refine z18 rfl ?_ | refine z19 rfl ?_ ?_ | (show lτ _ _ = some _; exact rfl) | exact z21 rfl rfl | refine z21 rfl ?_ | refine z22 ?_ | refine z24 ?_ | exact z25 | refine z26 ?_ rfl rfl ?_ | refine z23 ?_ | refine z27 ?_ rfl rfl ?_ ?_ | refine z28 ?_ rfl rfl ?_ ?_ ?_ | exact True.intro | exact z4 rfl | exact z5 | exact z6 | exact z7 | exact z8 | exact z9 | exact z10 | refine z37 ?_ | refine z38 rfl ?_ | exact z39 | exact z40 | refine z41 (xs := ?_) (ys := ?_) ?_ ?_ | refine z42 (xs := ?_) (ys := ?_) ?_ ?_ ?_ ?_ | refine z43 (xs := ?_) ?_ | refine z44 (xs := ?_) ?_ | refine z45 (x := ?_) (xs := ?_) ?_ ?_ | refine RowsAre.rep (x := ?_) (n := ?_) ?_ | (with_reducible show RowIs _ _ _; first | exact GTable_row _ | exact GTable_mk _ _ _ | exact GTableRange_row _ | exact GTableRange_mk _ _ _) | with_reducible exact rfl | (refine z11 ?_; omega) | (refine z12 ?_; omega) | simp only [List.length_append, List.length_map, List.length_cons, List.length_nil, List.length_set, List.length_replicate]))); rotate_left 1)
    | ((first
      | (guard_hyp t1;refine backK (?_,(ix1 + 1)) (Ent.places [.slot 1] _ (by simp only [go_sem,reduceCtorEq,Nat.reduceAdd,Nat.reduceSub,Nat.reduceMul,Nat.reduceLeDiff,Nat.reduceLT,Nat.reduceEqDiff];rfl) rfl rfl (Nat.zero_le _) ?_ ?_) ?_ ?_;rotate_left 1;rotate_left 3;(focus ((try dsimp only);omega));rotate_right 3)
      | (guard_hyp t3;refine backK (ix1 + 1) (Ent.places [] _ (by simp only [go_sem,reduceCtorEq,Nat.reduceAdd,Nat.reduceSub,Nat.reduceMul,Nat.reduceLeDiff,Nat.reduceLT,Nat.reduceEqDiff];rfl) rfl rfl (Nat.zero_le _) ?_ ?_) ?_ ?_;rotate_left 3;(focus ((try dsimp only);omega));rotate_right 3)
      ); (focus (repeat' (first | simp only [z1, z2, z3, Nat.reduceEqDiff, Nat.reduceLT, not_false_eq_true] | exact z29 | refine z30 ?_ ?_ | exact z32 | refine z33 ?_ ?_ | refine z31 ?_ | exact z34 | refine z35 rfl ?_ ?_ | refine z36 ?_ | exact z13 | exact z14 | exact z15 | exact z16 | refine z17 ?_ | refine z18 rfl ?_ | refine z19 rfl ?_ ?_ | (show lτ _ _ = some _; exact rfl) | exact z21 rfl rfl | refine z21 rfl ?_ | refine z22 ?_ | refine z24 ?_ | exact z25 | refine z26 ?_ rfl rfl ?_ | refine z23 ?_ | refine z27 ?_ rfl rfl ?_ ?_ | refine z28 ?_ rfl rfl ?_ ?_ ?_ | exact True.intro | exact z4 rfl | exact z5 | exact z6 | exact z7 | exact z8 | exact z9 | exact z10 | refine z37 ?_ | refine z38 rfl ?_ | exact z39 | exact z40 | refine z41 (xs := ?_) (ys := ?_) ?_ ?_ | refine z42 (xs := ?_) (ys := ?_) ?_ ?_ ?_ ?_ | refine z43 (xs := ?_) ?_ | refine z44 (xs := ?_) ?_ | refine z45 (x := ?_) (xs := ?_) ?_ ?_ | refine RowsAre.rep (x := ?_) (n := ?_) ?_ | (with_reducible show RowIs _ _ _; first | exact GTable_row _ | exact GTable_mk _ _ _ | exact GTableRange_row _ | exact GTableRange_mk _ _ _) | with_reducible exact rfl | (refine z11 ?_; omega) | (refine z12 ?_; omega) | simp only [List.length_append, List.length_map, List.length_cons, List.length_nil, List.length_set, List.length_replicate]))); (focus (repeat' (first | simp only [z1, z2, z3, Nat.reduceEqDiff, Nat.reduceLT, not_false_eq_true] | exact z29 | refine z30 ?_ ?_ | exact z32 | refine z33 ?_ ?_ | refine z31 ?_ | exact z34 | refine z35 rfl ?_ ?_ | refine z36 ?_ | exact z13 | exact z14 | exact z15 | exact z16 | refine z17 ?_ | refine z18 rfl ?_ | refine z19 rfl ?_ ?_ | (show lτ _ _ = some _; exact rfl) | exact z21 rfl rfl | refine z21 rfl ?_ | refine z22 ?_ | refine z24 ?_ | exact z25 | refine z26 ?_ rfl rfl ?_ | refine z23 ?_ | refine z27 ?_ rfl rfl ?_ ?_ | refine z28 ?_ rfl rfl ?_ ?_ ?_ | exact True.intro | exact z4 rfl | exact z5 | exact z6 | exact z7 | exact z8 | exact z9 | exact z10 | refine z37 ?_ | refine z38 rfl ?_ | exact z39 | exact z40 | refine z41 (xs := ?_) (ys := ?_) ?_ ?_ | refine z42 (xs := ?_) (ys := ?_) ?_ ?_ ?_ ?_ | refine z43 (xs := ?_) ?_ | refine z44 (xs := ?_) ?_ | refine z45 (x := ?_) (xs := ?_) ?_ ?_ | refine RowsAre.rep (x := ?_) (n := ?_) ?_ | (with_reducible show RowIs _ _ _; first | exact GTable_row _ | exact GTable_mk _ _ _ | exact GTableRange_row _ | exact GTableRange_mk _ _ _) | with_reducible exact rfl | (refine z11 ?_; omega) | (refine z12 ?_; omega) | simp only [List.length_append, List.length_map, List.length_cons, List.length_nil, List.length_set, List.length_replicate]))))
    | ((first
      | (guard_hyp t1;refine backK (?_,(ix1 + 1)) (Ent.places [.slot 1] _ (by simp only [go_sem,reduceCtorEq,Nat.reduceAdd,Nat.reduceSub,Nat.reduceMul,Nat.reduceLeDiff,Nat.reduceLT,Nat.reduceEqDiff];rfl) rfl rfl (Nat.zero_le _) ?_ ?_) ?_ ?_;rotate_left 1)
      | (guard_hyp t3;refine backK (ix1 + 1) (Ent.places [] _ (by simp only [go_sem,reduceCtorEq,Nat.reduceAdd,Nat.reduceSub,Nat.reduceMul,Nat.reduceLeDiff,Nat.reduceLT,Nat.reduceEqDiff];rfl) rfl rfl (Nat.zero_le _) ?_ ?_) ?_ ?_)
      ); (focus (repeat' (first | simp only [z1, z2, z3, Nat.reduceEqDiff, Nat.reduceLT, not_false_eq_true] | exact z29 | refine z30 ?_ ?_ | exact z32 | refine z33 ?_ ?_ | refine z31 ?_ | exact z34 | refine z35 rfl ?_ ?_ | refine z36 ?_ | exact z13 | exact z14 | exact z15 | exact z16 | refine z17 ?_ | refine z18 rfl ?_ | refine z19 rfl ?_ ?_ | (show lτ _ _ = some _; exact rfl) | exact z21 rfl rfl | refine z21 rfl ?_ | refine z22 ?_ | refine z24 ?_ | exact z25 | refine z26 ?_ rfl rfl ?_ | refine z23 ?_ | refine z27 ?_ rfl rfl ?_ ?_ | refine z28 ?_ rfl rfl ?_ ?_ ?_ | exact True.intro | exact z4 rfl | exact z5 | exact z6 | exact z7 | exact z8 | exact z9 | exact z10 | refine z37 ?_ | refine z38 rfl ?_ | exact z39 | exact z40 | refine z41 (xs := ?_) (ys := ?_) ?_ ?_ | refine z42 (xs := ?_) (ys := ?_) ?_ ?_ ?_ ?_ | refine z43 (xs := ?_) ?_ | refine z44 (xs := ?_) ?_ | refine z45 (x := ?_) (xs := ?_) ?_ ?_ | refine RowsAre.rep (x := ?_) (n := ?_) ?_ | (with_reducible show RowIs _ _ _; first | exact GTable_row _ | exact GTable_mk _ _ _ | exact GTableRange_row _ | exact GTableRange_mk _ _ _) | with_reducible exact rfl | (refine z11 ?_; omega) | (refine z12 ?_; omega) | simp only [List.length_append, List.length_map, List.length_cons, List.length_nil, List.length_set, List.length_replicate]))); (focus (repeat' (first | simp only [z1, z2, z3, Nat.reduceEqDiff, Nat.reduceLT, not_false_eq_true] | exact z29 | refine z30 ?_ ?_ | exact z32 | refine z33 ?_ ?_ | refine z31 ?_ | exact z34 | refine z35 rfl ?_ ?_ | refine z36 ?_ | exact z13 | exact z14 | exact z15 | exact z16 | refine z17 ?_ | refine z18 rfl ?_ | refine z19 rfl ?_ ?_ | (show lτ _ _ = some _; exact rfl) | exact z21 rfl rfl | refine z21 rfl ?_ | refine z22 ?_ | refine z24 ?_ | exact z25 | refine z26 ?_ rfl rfl ?_ | refine z23 ?_ | refine z27 ?_ rfl rfl ?_ ?_ | refine z28 ?_ rfl rfl ?_ ?_ ?_ | exact True.intro | exact z4 rfl | exact z5 | exact z6 | exact z7 | exact z8 | exact z9 | exact z10 | refine z37 ?_ | refine z38 rfl ?_ | exact z39 | exact z40 | refine z41 (xs := ?_) (ys := ?_) ?_ ?_ | refine z42 (xs := ?_) (ys := ?_) ?_ ?_ ?_ ?_ | refine z43 (xs := ?_) ?_ | refine z44 (xs := ?_) ?_ | refine z45 (x := ?_) (xs := ?_) ?_ ?_ | refine RowsAre.rep (x := ?_) (n := ?_) ?_ | (with_reducible show RowIs _ _ _; first | exact GTable_row _ | exact GTable_mk _ _ _ | exact GTableRange_row _ | exact GTableRange_mk _ _ _) | with_reducible exact rfl | (refine z11 ?_; omega) | (refine z12 ?_; omega) | simp only [List.length_append, List.length_map, List.length_cons, List.length_nil, List.length_set, List.length_replicate]))); rotate_left 1; (focus ((try dsimp only); first | omega | (simp only [List.length_set, List.length_append, List.length_cons, List.length_nil]; omega))))
    | ((first
      | (guard_hyp t0;refine EndK.eqv (vs := ?_) (f := fun x : Bool => .lit (.bool x)) ?_ (by first|exact .inr rfl|exact .inl rfl) ?_ ?_ ?_;rotate_left 2)
      | (guard_hyp t1;refine EndK.eqv (vs := ?_) (f := fun x : Bool => .lit (.bool x)) ?_ (by first|exact .inr rfl|exact .inl rfl) ?_ ?_ ?_;rotate_left 2)
      | (guard_hyp t2;refine EndK.eqv (vs := ?_) (f := fun x : Bool => .lit (.bool x)) ?_ (by first|exact .inr rfl|exact .inl rfl) ?_ ?_ ?_;rotate_left 2)
      | (guard_hyp t3;refine EndK.eqv (vs := ?_) (f := fun x : Int => .lit (.int .i64 x)) ?_ (by first|exact .inr rfl|exact .inl rfl) ?_ ?_ ?_;rotate_left 2)
      | (guard_hyp t4;refine EndK.eqv (vs := ?_) (f := fun x : Int => .lit (.int .i64 x)) ?_ (by first|exact .inr rfl|exact .inl rfl) ?_ ?_ ?_;rotate_left 2)
      ); (focus (simp only [go_sem, reduceCtorEq, Nat.reduceAdd, Nat.reduceSub, Nat.reduceMul, Nat.reduceLeDiff, Nat.reduceLT, Nat.reduceEqDiff]; exact rfl)); (focus (repeat' (first | simp only [z1, z2, z3, Nat.reduceEqDiff, Nat.reduceLT, not_false_eq_true] | exact z29 | refine z30 ?_ ?_ | exact z32 | refine z33 ?_ ?_ | refine z31 ?_ | exact z34 | refine z35 rfl ?_ ?_ | refine z36 ?_ | exact z13 | exact z14 | exact z15 | exact z16 | refine z17 ?_ | refine z18 rfl ?_ | refine z19 rfl ?_ ?_ | (show lτ _ _ = some _; exact rfl) | exact z21 rfl rfl | refine z21 rfl ?_ | refine z22 ?_ | refine z24 ?_ | exact z25 | refine z26 ?_ rfl rfl ?_ | refine z23 ?_ | refine z27 ?_ rfl rfl ?_ ?_ | refine z28 ?_ rfl rfl ?_ ?_ ?_ | exact True.intro | exact z4 rfl | exact z5 | exact z6 | exact z7 | exact z8 | exact z9 | exact z10 | refine z37 ?_ | refine z38 rfl ?_ | exact z39 | exact z40 | refine z41 (xs := ?_) (ys := ?_) ?_ ?_ | refine z42 (xs := ?_) (ys := ?_) ?_ ?_ ?_ ?_ | refine z43 (xs := ?_) ?_ | refine z44 (xs := ?_) ?_ | refine z45 (x := ?_) (xs := ?_) ?_ ?_ | refine RowsAre.rep (x := ?_) (n := ?_) ?_ | (with_reducible show RowIs _ _ _; first | exact GTable_row _ | exact GTable_mk _ _ _ | exact GTableRange_row _ | exact GTableRange_mk _ _ _) | with_reducible exact rfl | (refine z11 ?_; omega) | (refine z12 ?_; omega) | simp only [List.length_append, List.length_map, List.length_cons, List.length_nil, List.length_set, List.length_replicate])))))
  all_goals (try clear h1); all_goals (try clear K1); all_goals (try clear hK); all_goals (try clear K); all_goals (try dsimp only); all_goals (try simp only [Bool.not_eq_false', Bool.not_eq_true', decide_eq_true_eq, decide_eq_false_iff_not] at *); all_goals (try simp only [GTable_eta, GTableRange_eta] at *); all_goals (try clear im_has_c); all_goals (try clear im_Table_rangeOf_1_c); all_goals (try clear slices_IndexFunc_TableRange_f_im_Table_rangeOf_1_c)
  all_goals first
    | omega
    | (guard_hyp t0;first|((have hb := im_isNode_bd (by assumption);omega)))
    | (simp only [List.length_cons,List.length_nil,Nat.reduceAdd];done)
    | (simp only [List.length_set,List.length_append,List.length_cons,List.length_nil,List.length_map,List.length_take,List.length_drop];omega)
    | (obtain ⟨x,_,rfl⟩ := List.mem_map.1 (by assumption);rfl)
    | (obtain ⟨x,_,rfl⟩ := List.mem_map.1 (List.mem_of_mem_take (by assumption));rfl)
    | (obtain ⟨x,_,rfl⟩ := List.mem_map.1 (List.mem_of_mem_drop (List.mem_of_mem_take (by assumption)));rfl)
    | (simp (disch := omega) only [wr_id];omega)
    | (guard_hyp t0;first|(rw [im_has];all_goals first|grind|(repeat' split) <;> first|rfl|grind))
    | (guard_hyp t1;first|(rw [im_TableOk_K1,im_TableOk_L1] at hM;rw [im_TableOk_K1];all_goals grind)|(rw [im_TableOk_K1,im_TableOk_L1] at hM;grind)|(rw [im_TableOk];all_goals first|grind|(repeat' split) <;> first|rfl|grind))
    | (guard_hyp t2;first|(rw [im_Table_rangeOf_1];all_goals first|grind|(repeat' split) <;> first|rfl|grind))
    | (guard_hyp t3;first|(rw [slices_IndexFunc_TableRange_f_im_Table_rangeOf_1_K1,slices_IndexFunc_TableRange_f_im_Table_rangeOf_1_L1] at hM;rw [slices_IndexFunc_TableRange_f_im_Table_rangeOf_1_K1];all_goals grind)|(rw [slices_IndexFunc_TableRange_f_im_Table_rangeOf_1_K1,slices_IndexFunc_TableRange_f_im_Table_rangeOf_1_L1] at hM;grind)|(rw [slices_IndexFunc_TableRange_f_im_Table_rangeOf_1];all_goals first|grind|(repeat' split) <;> first|rfl|grind))
    | (guard_hyp t4;first|(rw [im_Table_rangeOf];all_goals first|grind|(repeat' split) <;> first|rfl|grind))
    | grind)
theorem im_has_c : Sim_has_c := layI11.1
theorem im_TableOk_c : Sim_TableOk_c := layI11.2.1 im_has_c
theorem im_Table_rangeOf_1_c : Sim_Table_rangeOf_1_c := layI11.2.2.1
theorem slices_IndexFunc_TableRange_f_im_Table_rangeOf_1_c : Sslices_IndexFunc_TableRange_f_im_Table_rangeOf_1_c := layI11.2.2.2.1 im_Table_rangeOf_1_c
theorem im_Table_rangeOf_c : Sim_Table_rangeOf_c := layI11.2.2.2.2 slices_IndexFunc_TableRange_f_im_Table_rangeOf_1_c
def slices_Clone_TableRange (s : List GTableRange) : (List GTableRange) :=
  s
set_option maxRecDepth 10000 in
set_option maxHeartbeats 2000000 in
theorem slices_Clone_TableRange_c (s : List GTableRange) (hp0 : s.length ≤ 2147483648) : Does Tryz.prog 142 0 [.r (.rd 3 encGTableRange s)] [] (fun vv H2 => vv = .sl 0 3 0 (slices_Clone_TableRange s).length ∧ H2 = [some (.rows 3 (fun q => (encGTableRange q).map AV.r) (slices_Clone_TableRange s))]) := by
  rcases s with _ | ⟨a0, l0⟩ <;> (
  refine Does.goR Tryz.func142 Tryz.ntmps142 Tryz.results142 rfl (Nat.zero_le _) rfl ?_
  simp only [argR, Nat.reduceAdd]
  repeat' (first
    | (refine Tri.regSeq fun K hK => RegS.run ?_)
    | (refine Tri.reg fun K hK => RegS.run ?_)
    | (refine RegS.nil (hK _ _ ?_);clear hK K)
    | (refine QuietS.nil (hK _ _ ?_);clear hK K)
    | ((first|refine RegS.step fun K1 h1 => ?_|refine QuietS.step fun K1 h1 => ?_);simp only [go_sem,reduceCtorEq,Nat.reduceAdd,Nat.reduceSub,Nat.reduceMul,Nat.reduceLeDiff,Nat.reduceLT,Nat.reduceEqDiff])
    | (with_reducible refine GTableRange_ex _ _ _ ?_)
    | (refine h1 _ _ ?_;clear h1 K1)
    | refine And.intro ?_ ?_
    | omega
    | (refine Tri.cond (b := ?_) ?_ ?_ ?_;rotate_left 1;focus (simp only [ev,z1,z2,Nat.reduceEqDiff,Nat.reduceLT,not_false_eq_true];exact rfl))
    | (intro h;(try simp only [decide_eq_true_eq,decide_eq_false_iff_not,Int.not_lt,Int.not_le,beq_iff_eq,bne_iff_ne,beq_eq_false_iff_ne,bne_eq_false_iff_eq,ne_eq,Bool.not_eq_true',Bool.not_eq_false',Decidable.not_not] at h);(try contradiction);(try (exfalso;simp_all;done)))
    | (refine Tri.skip ?_;try change Tri _ _ _ _ _ _)
    | (refine Tri.exit ?_;try change Tri _ _ _ _ _ _)
    | refine Tri.ret ?_
    | refine Tri.block ?_
    | refine Tri.seq ?_
    | (refine EndK.eqq (p := 0) (vs := ?_) (f := fun x : (List GTableRange) => .sl 0 3 0 x.length) (g := fun x : (List GTableRange) => [some (.rows 3 (fun q => (encGTableRange q).map AV.r) x)]) ?_ [?_] (by first|exact .inr rfl|exact .inl rfl) ?_ ?_ ?_ (by simp) ?_ ?_ ?_
       rotate_left 3; (focus (simp only [go_sem, reduceCtorEq, Nat.reduceAdd, Nat.reduceSub, Nat.reduceMul, Nat.reduceLeDiff, Nat.reduceLT, Nat.reduceEqDiff]; exact rfl)); rotate_left 3; (focus (repeat' (first | simp only [z1, z2, z3, Nat.reduceEqDiff, Nat.reduceLT, not_false_eq_true] | exact z29 | refine z30 ?_ ?_ | exact z32 | refine z33 ?_ ?_ | refine z31 ?_ | exact z34 | refine z35 rfl ?_ ?_ | refine z36 ?_ | exact z13 | exact z14 | exact z15 | exact z16 | refine z17 ?_ | refine z18 rfl ?_ | refine z20 rfl ?_ ?_ | (show lτ _ _ = some _; exact rfl) | exact z21 rfl rfl | refine z21 rfl ?_ | refine z22 ?_ | refine z24 ?_ | exact z25 | refine z26 ?_ rfl rfl ?_ | refine z23 ?_ | refine z27 ?_ rfl rfl ?_ ?_ | refine z28 ?_ rfl rfl ?_ ?_ ?_ | exact True.intro | exact z4 rfl | exact z5 | exact z6 | exact z7 | exact z8 | exact z9 | exact z10 | refine z37 ?_ | refine z38 rfl ?_ | exact z39 | exact z40 | refine z41 (xs := ?_) (ys := ?_) ?_ ?_ | refine z42 (xs := ?_) (ys := ?_) ?_ ?_ ?_ ?_ | refine z43 (xs := ?_) ?_ | refine z44 (xs := ?_) ?_ | refine z45 (x := ?_) (xs := ?_) ?_ ?_ | refine RowsAre.rep (x := ?_) (n := ?_) ?_ | exact GTableRange_row _ | exact GTableRange_mk _ _ _ | with_reducible exact rfl | (refine z11 ?_; omega) | (refine z12 ?_; omega) | simp only [List.length_append, List.length_map, List.length_cons, List.length_nil, List.length_set, List.length_replicate]))); rotate_right 1; (focus (repeat' (first | simp only [z1, z2, z3, Nat.reduceEqDiff, Nat.reduceLT, not_false_eq_true] | exact z29 | refine z30 ?_ ?_ | exact z32 | refine z33 ?_ ?_ | refine z31 ?_ | exact z34 | refine z35 rfl ?_ ?_ | refine z36 ?_ | exact z13 | exact z14 | exact z15 | exact z16 | refine z17 ?_ | refine z18 rfl ?_ | refine z20 rfl ?_ ?_ | (show lτ _ _ = some _; exact rfl) | exact z21 rfl rfl | refine z21 rfl ?_ | refine z22 ?_ | refine z24 ?_ | exact z25 | refine z26 ?_ rfl rfl ?_ | refine z23 ?_ | refine z27 ?_ rfl rfl ?_ ?_ | refine z28 ?_ rfl rfl ?_ ?_ ?_ | exact True.intro | exact z4 rfl | exact z5 | exact z6 | exact z7 | exact z8 | exact z9 | exact z10 | refine z37 ?_ | refine z38 rfl ?_ | exact z39 | exact z40 | refine z41 (xs := ?_) (ys := ?_) ?_ ?_ | refine z42 (xs := ?_) (ys := ?_) ?_ ?_ ?_ ?_ | refine z43 (xs := ?_) ?_ | refine z44 (xs := ?_) ?_ | refine z45 (x := ?_) (xs := ?_) ?_ ?_ | refine RowsAre.rep (x := ?_) (n := ?_) ?_ | exact GTableRange_row _ | exact GTableRange_mk _ _ _ | with_reducible exact rfl | (refine z11 ?_; omega) | (refine z12 ?_; omega) | simp only [List.length_append, List.length_map, List.length_cons, List.length_nil, List.length_set, List.length_replicate]))); (all_goals (try (with_reducible refine z48 ?_); try with_reducible exact rfl)); (all_goals (try (with_reducible refine z49 ?_); exact rfl))))
  all_goals (try clear h1); all_goals (try clear K1); all_goals (try clear hK); all_goals (try clear K); all_goals (try dsimp only); all_goals (try simp only [Bool.not_eq_false', Bool.not_eq_true', decide_eq_true_eq, decide_eq_false_iff_not] at *); all_goals (try simp only [GTableRange_eta] at *)
  all_goals first
    | omega
    | (simp only [List.length_cons,List.length_nil,Nat.reduceAdd];done)
    | (simp only [List.length_set,List.length_append,List.length_cons,List.length_nil,List.length_map,List.length_take,List.length_drop];omega)
    | (obtain ⟨x,_,rfl⟩ := List.mem_map.1 (by assumption);rfl)
    | (obtain ⟨x,_,rfl⟩ := List.mem_map.1 (List.mem_of_mem_take (by assumption));rfl)
    | (obtain ⟨x,_,rfl⟩ := List.mem_map.1 (List.mem_of_mem_drop (List.mem_of_mem_take (by assumption)));rfl)
    | (simp (disch := omega) only [wr_id];omega)
    | (rw [slices_Clone_TableRange];all_goals first|grind|(repeat' split) <;> first|rfl|grind)
    | grind)
def im_Table_copied (t : GTable) : GTable :=
  let t := { t with Ranges := (slices_Clone_TableRange t.Ranges) }
  t
def Sim_Table_copied_c : Prop := ∀ (t : GTable) (hp0 : t.Ranges.length ≤ 2147483648), Does Tryz.prog 123 0 [.agg [.lit (.int .i64 t.Epoch), .lit (.int .i64 t.Members), .r (.rd 3 encGTableRange t.Ranges)]] [] (fun vv H2 => vv = .agg [.lit (.int .i64 (im_Table_copied t).Epoch), .lit (.int .i64 (im_Table_copied t).Members), .sl 0 3 0 (im_Table_copied t).Ranges.length] ∧ H2 = [some (.rows 3 (fun q => (encGTableRange q).map AV.r) (im_Table_copied t).Ranges)])
set_option maxRecDepth 10000 in
set_option maxHeartbeats 2000000 in
theorem layI12 : (Sim_Table_copied_c) := by
  refine fun t hp0 => have t0 := tg 0; Does.goR Tryz.func123 Tryz.ntmps123 Tryz.results123 rfl (Nat.zero_le _) rfl ?_
  all_goals (
  simp only [argR, Nat.reduceAdd]
  repeat' (first
    | (refine Tri.regSeq fun K hK => RegS.run ?_)
    | (refine Tri.reg fun K hK => RegS.run ?_)
    | (refine RegS.nil (hK _ _ ?_);clear hK K)
    | (refine QuietS.nil (hK _ _ ?_);clear hK K)
    | ((first|refine RegS.step fun K1 h1 => ?_|refine QuietS.step fun K1 h1 => ?_);simp only [go_sem,reduceCtorEq,Nat.reduceAdd,Nat.reduceSub,Nat.reduceMul,Nat.reduceLeDiff,Nat.reduceLT,Nat.reduceEqDiff])
    | (with_reducible refine GTableRange_ex _ _ _ ?_)
    | (refine h1 _ _ ?_;clear h1 K1)
    | refine And.intro ?_ ?_
    | ((refine CallA.frameq [] [] 0 (slices_Clone_TableRange_c ?_ ?_) (by simp) ?_ ?_ ?_ rfl rfl ?_ ?_;rotate_left 5);(focus ((repeat' (first|simp only [z1,z2,z3,Nat.reduceEqDiff,Nat.reduceLT,not_false_eq_true]|exact z29|refine z30 ?_ ?_|exact z32|refine z33 ?_ ?_|refine z31 ?_|exact z34|refine z35 rfl ?_ ?_|refine z36 ?_|exact z13|exact z14|exact z15|exact z16|refine z17 ?_|refine z18 rfl ?_|refine z20 rfl ?_ ?_|(show lτ _ _ = some _;exact rfl)|exact z21 rfl rfl|refine z21 rfl ?_|refine z22 ?_|refine z24 ?_|exact z25|refine z26 ?_ rfl rfl ?_|refine z23 ?_|refine z27 ?_ rfl rfl ?_ ?_|refine z28 ?_ rfl rfl ?_ ?_ ?_|exact True.intro|exact z4 rfl|exact z5|exact z6|exact z7|exact z8|exact z9|exact z10|refine z37 ?_|refine z38 rfl ?_|exact z39|exact z40|refine z41 (xs := ?_) (ys := ?_) ?_ ?_|refine z42 (xs := ?_) (ys := ?_) ?_ ?_ ?_ ?_|refine z43 (xs := ?_) ?_|refine z44 (xs := ?_) ?_|refine z45 (x := ?_) (xs := ?_) ?_ ?_|refine RowsAre.rep (x := ?_) (n := ?_) ?_|(with_reducible show RowIs _ _ _;first|exact GTable_row _|exact GTable_mk _ _ _|exact GTableRange_row _|exact GTableRange_mk _ _ _)|with_reducible exact rfl|(refine z11 ?_;omega)|(refine z12 ?_;omega)|simp only [List.length_append,List.length_map,List.length_cons,List.length_nil,List.length_set,List.length_replicate]));(all_goals (fail_if_success (with_reducible show FZ _ _)));(all_goals (fail_if_success (with_reducible show List.contains _ _ = true)));(all_goals (fail_if_success (with_reducible show False)));(all_goals (fail_if_success (with_reducible show VSub _ _ _ _ _ _)))));rotate_right 1;(focus ((repeat' (first|simp only [z1,z2,z3,Nat.reduceEqDiff,Nat.reduceLT,not_false_eq_true]|exact z29|refine z30 ?_ ?_|exact z32|refine z33 ?_ ?_|refine z31 ?_|exact z34|refine z35 rfl ?_ ?_|refine z36 ?_|exact z13|exact z14|exact z15|exact z16|refine z17 ?_|refine z18 rfl ?_|refine z20 rfl ?_ ?_|(show lτ _ _ = some _;exact rfl)|exact z21 rfl rfl|refine z21 rfl ?_|refine z22 ?_|refine z24 ?_|exact z25|refine z26 ?_ rfl rfl ?_|refine z23 ?_|refine z27 ?_ rfl rfl ?_ ?_|refine z28 ?_ rfl rfl ?_ ?_ ?_|exact True.intro|exact z4 rfl|exact z5|exact z6|exact z7|exact z8|exact z9|exact z10|refine z37 ?_|refine z38 rfl ?_|exact z39|exact z40|refine z41 (xs := ?_) (ys := ?_) ?_ ?_|refine z42 (xs := ?_) (ys := ?_) ?_ ?_ ?_ ?_|refine z43 (xs := ?_) ?_|refine z44 (xs := ?_) ?_|refine z45 (x := ?_) (xs := ?_) ?_ ?_|refine RowsAre.rep (x := ?_) (n := ?_) ?_|(with_reducible show RowIs _ _ _;first|exact GTable_row _|exact GTable_mk _ _ _|exact GTableRange_row _|exact GTableRange_mk _ _ _)|with_reducible exact rfl|(refine z11 ?_;omega)|(refine z12 ?_;omega)|simp only [List.length_append,List.length_map,List.length_cons,List.length_nil,List.length_set,List.length_replicate]));(all_goals (fail_if_success (with_reducible show FZ _ _)));(all_goals (fail_if_success (with_reducible show List.contains _ _ = true)));(all_goals (fail_if_success (with_reducible show False)));(all_goals (fail_if_success (with_reducible show VSub _ _ _ _ _ _)));(all_goals (fail_if_success (with_reducible show HTell _ _ _ _ _ _)))));(all_goals (try (with_reducible refine z49 ?_);exact rfl));(all_goals (try (with_reducible refine z48 ?_);try with_reducible exact rfl));any_goals (rintro _ _ ⟨rfl,rfl⟩ _;simp only [go_sem,reduceCtorEq,Nat.reduceAdd,Nat.reduceSub,Nat.reduceMul,Nat.reduceLeDiff,Nat.reduceLT,Nat.reduceEqDiff]))
    | ((refine CallA.frameLq [] [?_] 0 (slices_Clone_TableRange_c ?_ ?_) (by simp) ?_ ?_ ?_ rfl rfl ?_ (freeP (by simp [AFree,AFreeL]) (HFree.cons (BFree.rows GTableRange_lit) HFree.nil)) ?_;rotate_left 6);(focus ((repeat' (first|simp only [z1,z2,z3,Nat.reduceEqDiff,Nat.reduceLT,not_false_eq_true]|exact z29|refine z30 ?_ ?_|exact z32|refine z33 ?_ ?_|refine z31 ?_|exact z34|refine z35 rfl ?_ ?_|refine z36 ?_|exact z13|exact z14|exact z15|exact z16|refine z17 ?_|refine z18 rfl ?_|refine z20 rfl ?_ ?_|(show lτ _ _ = some _;exact rfl)|exact z21 rfl rfl|refine z21 rfl ?_|refine z22 ?_|refine z24 ?_|exact z25|refine z26 ?_ rfl rfl ?_|refine z23 ?_|refine z27 ?_ rfl rfl ?_ ?_|refine z28 ?_ rfl rfl ?_ ?_ ?_|exact True.intro|exact z4 rfl|exact z5|exact z6|exact z7|exact z8|exact z9|exact z10|refine z37 ?_|refine z38 rfl ?_|exact z39|exact z40|refine z41 (xs := ?_) (ys := ?_) ?_ ?_|refine z42 (xs := ?_) (ys := ?_) ?_ ?_ ?_ ?_|refine z43 (xs := ?_) ?_|refine z44 (xs := ?_) ?_|refine z45 (x := ?_) (xs := ?_) ?_ ?_|refine RowsAre.rep (x := ?_) (n := ?_) ?_|(with_reducible show RowIs _ _ _;first|exact GTable_row _|exact GTable_mk _ _ _|exact GTableRange_row _|exact GTableRange_mk _ _ _)|with_reducible exact rfl|(refine z11 ?_;omega)|(refine z12 ?_;omega)|simp only [List.length_append,List.length_map,List.length_cons,List.length_nil,List.length_set,List.length_replicate]));(all_goals (fail_if_success (with_reducible show FZ _ _)));(all_goals (fail_if_success (with_reducible show List.contains _ _ = true)));(all_goals (fail_if_success (with_reducible show False)));(all_goals (fail_if_success (with_reducible show VSub _ _ _ _ _ _)))));rotate_right 1;(focus ((repeat' (first|simp only [z1,z2,z3,Nat.reduceEqDiff,Nat.reduceLT,not_false_eq_true]|exact z29|refine z30 ?_ ?_|exact z32|refine z33 ?_ ?_|refine z31 ?_|exact z34|refine z35 rfl ?_ ?_|refine z36 ?_|exact z13|exact z14|exact z15|exact z16|refine z17 ?_|refine z18 rfl ?_|refine z20 rfl ?_ ?_|(show lτ _ _ = some _;exact rfl)|exact z21 rfl rfl|refine z21 rfl ?_|refine z22 ?_|refine z24 ?_|exact z25|refine z26 ?_ rfl rfl ?_|refine z23 ?_|refine z27 ?_ rfl rfl ?_ ?_|refine z28 ?_ rfl rfl ?_ ?_ ?_|exact True.intro|exact z4 rfl|exact z5|exact z6|exact z7|exact z8|exact z9|exact z10|refine z37 ?_|refine z38 rfl ?_|exact z39|exact z40|refine z41 (xs := ?_) (ys := ?_) ?_ ?_|refine z42 (xs := ?_) (ys := ?_) ?_ ?_ ?_ ?_|refine z43 (xs := ?_) ?_|refine z44 (xs := ?_) ?_|refine z45 (x := ?_) (xs := ?_) ?_ ?_|refine RowsAre.rep (x := ?_) (n := ?_) ?_|(with_reducible show RowIs _ _ _;first|exact GTable_row _|exact GTable_mk _ _ _|exact GTableRange_row _|exact GTableRange_mk _ _ _)|with_reducible exact rfl|(refine z11 ?_;omega)|(refine z12 ?_;omega)|simp only [List.length_append,List.length_map,List.length_cons,List.length_nil,List.length_set,List.length_replicate]));(all_goals (fail_if_success (with_reducible show FZ _ _)));(all_goals (fail_if_success (with_reducible show List.contains _ _ = true)));(all_goals (fail_if_success (with_reducible show False)));(all_goals (fail_if_success (with_reducible show VSub _ _ _ _ _ _)));(all_goals (fail_if_success (with_reducible show HTell _ _ _ _ _ _)))));(all_goals (try (with_reducible refine z49 ?_);exact rfl));(all_goals (try (with_reducible refine z48 ?_);try with_reducible exact rfl));any_goals (rintro _ _ ⟨rfl,rfl⟩ _;simp only [go_sem,reduceCtorEq,Nat.reduceAdd,Nat.reduceSub,Nat.reduceMul,Nat.reduceLeDiff,Nat.reduceLT,Nat.reduceEqDiff]))
    | ((refine CallA.frameq [] [?_] 0 (slices_Clone_TableRange_c ?_ ?_) (by simp) ?_ ?_ ?_ rfl rfl ?_ ?_;rotate_left 6);(focus ((repeat' (first|simp only [z1,z2,z3,Nat.reduceEqDiff,Nat.reduceLT,not_false_eq_true]|exact z29|refine z30 ?_ ?_|exact z32|refine z33 ?_ ?_|refine z31 ?_|exact z34|refine z35 rfl ?_ ?_|refine z36 ?_|exact z13|exact z14|exact z15|exact z16|refine z17 ?_|refine z18 rfl ?_|refine z20 rfl ?_ ?_|(show lτ _ _ = some _;exact rfl)|exact z21 rfl rfl|refine z21 rfl ?_|refine z22 ?_|refine z24 ?_|exact z25|refine z26 ?_ rfl rfl ?_|refine z23 ?_|refine z27 ?_ rfl rfl ?_ ?_|refine z28 ?_ rfl rfl ?_ ?_ ?_|exact True.intro|exact z4 rfl|exact z5|exact z6|exact z7|exact z8|exact z9|exact z10|refine z37 ?_|refine z38 rfl ?_|exact z39|exact z40|refine z41 (xs := ?_) (ys := ?_) ?_ ?_|refine z42 (xs := ?_) (ys := ?_) ?_ ?_ ?_ ?_|refine z43 (xs := ?_) ?_|refine z44 (xs := ?_) ?_|refine z45 (x := ?_) (xs := ?_) ?_ ?_|refine RowsAre.rep (x := ?_) (n := ?_) ?_|(with_reducible show RowIs _ _ _;first|exact GTable_row _|exact GTable_mk _ _ _|exact GTableRange_row _|exact GTableRange_mk _ _ _)|with_reducible exact rfl|(refine z11 ?_;omega)|(refine z12 ?_;omega)|simp only [List.length_append,List.length_map,List.length_cons,List.length_nil,List.length_set,List.length_replicate]));(all_goals (fail_if_success (with_reducible show FZ _ _)));(all_goals (fail_if_success (with_reducible show List.contains _ _ = true)));(all_goals (fail_if_success (with_reducible show False)));(all_goals (fail_if_success (with_reducible show VSub _ _ _ _ _ _)))));rotate_right 1;(focus ((repeat' (first|simp only [z1,z2,z3,Nat.reduceEqDiff,Nat.reduceLT,not_false_eq_true]|exact z29|refine z30 ?_ ?_|exact z32|refine z33 ?_ ?_|refine z31 ?_|exact z34|refine z35 rfl ?_ ?_|refine z36 ?_|exact z13|exact z14|exact z15|exact z16|refine z17 ?_|refine z18 rfl ?_|refine z20 rfl ?_ ?_|(show lτ _ _ = some _;exact rfl)|exact z21 rfl rfl|refine z21 rfl ?_|refine z22 ?_|refine z24 ?_|exact z25|refine z26 ?_ rfl rfl ?_|refine z23 ?_|refine z27 ?_ rfl rfl ?_ ?_|refine z28 ?_ rfl rfl ?_ ?_ ?_|exact True.intro|exact z4 rfl|exact z5|exact z6|exact z7|exact z8|exact z9|exact z10|refine z37 ?_|refine z38 rfl ?_|exact z39|exact z40|refine z41 (xs := ?_) (ys := ?_) ?_ ?_|refine z42 (xs := ?_) (ys := ?_) ?_ ?_ ?_ ?_|refine z43 (xs := ?_) ?_|refine z44 (xs := ?_) ?_|refine z45 (x := ?_) (xs := ?_) ?_ ?_|refine RowsAre.rep (x := ?_) (n := ?_) ?_|(with_reducible show RowIs _ _ _;first|exact GTable_row _|exact GTable_mk _ _ _|exact GTableRange_row _|exact GTableRange_mk _ _ _)|with_reducible exact rfl|(refine z11 ?_;omega)|(refine z12 ?_;omega)|simp only [List.length_append,List.length_map,List.length_cons,List.length_nil,List.length_set,List.length_replicate]));(all_goals (fail_if_success (with_reducible show FZ _ _)));(all_goals (fail_if_success (with_reducible show List.contains _ _ = true)));(all_goals (fail_if_success (with_reducible show False)));(all_goals (fail_if_success (with_reducible show VSub _ _ _ _ _ _)));(all_goals (fail_if_success (with_reducible show HTell _ _ _ _ _ _)))));(all_goals (try (with_reducible refine z49 ?_);exact rfl));(all_goals (try (with_reducible refine z48 ?_);try with_reducible exact rfl));any_goals (rintro _ _ ⟨rfl,rfl⟩ _;simp only [go_sem,reduceCtorEq,Nat.reduceAdd,Nat.reduceSub,Nat.reduceMul,Nat.reduceLeDiff,Nat.reduceLT,Nat.reduceEqDiff]))
    | omega
    | (refine Tri.cond (b := ?_) ?_ ?_ ?_;rotate_left 1;focus (simp only [ev,z1,z2,Nat.reduceEqDiff,Nat.reduceLT,not_false_eq_true];exact rfl))
    | (intro h;(try simp only [decide_eq_true_eq,decide_eq_false_iff_not,Int.not_lt,Int.not_le,beq_iff_eq,bne_iff_ne,beq_eq_false_iff_ne,bne_eq_false_iff_eq,ne_eq,Bool.not_eq_true',Bool.not_eq_false',Decidable.not_not] at h);(try contradiction))
    | (refine Tri.skip ?_;try change Tri _ _ _ _ _ _)
    | (refine Tri.exit ?_;try change Tri _ _ _ _ _ _)
    | refine Tri.ret ?_
    | refine Tri.block ?_
    | refine Tri.seq ?_
    | ((guard_hyp t0;refine EndK.eqq (p := 0) (vs := ?_) (f := fun x : GTable => .agg [.lit (.int .i64 x.Epoch),.lit (.int .i64 x.Members),.sl 0 3 0 x.Ranges.length]) (g := fun x : GTable => [some (.rows 3 (fun q => (encGTableRange q).map AV.r) x.Ranges)]) ⟨?_,?_,?_⟩ [?_] (by first|exact .inr rfl|exact .inl rfl) ?_ ?_ ?_ (by simp) ?_ ?_ ?_;rotate_left 5);(focus (simp only [go_sem,reduceCtorEq,Nat.reduceAdd,Nat.reduceSub,Nat.reduceMul,Nat.reduceLeDiff,Nat.reduceLT,Nat.reduceEqDiff];exact rfl));rotate_left 3;(focus (repeat' (first|simp only [z1,z2,z3,Nat.reduceEqDiff,Nat.reduceLT,not_false_eq_true]|exact z29|refine z30 ?_ ?_|exact z32|refine z33 ?_ ?_|refine z31 ?_|exact z34|refine z35 rfl ?_ ?_|refine z36 ?_|exact z13|exact z14|exact z15|exact z16|refine z17 ?_|refine z18 rfl ?_|refine z20 rfl ?_ ?_|(show lτ _ _ = some _;exact rfl)|exact z21 rfl rfl|refine z21 rfl ?_|refine z22 ?_|refine z24 ?_|exact z25|refine z26 ?_ rfl rfl ?_|refine z23 ?_|refine z27 ?_ rfl rfl ?_ ?_|refine z28 ?_ rfl rfl ?_ ?_ ?_|exact True.intro|exact z4 rfl|exact z5|exact z6|exact z7|exact z8|exact z9|exact z10|refine z37 ?_|refine z38 rfl ?_|exact z39|exact z40|refine z41 (xs := ?_) (ys := ?_) ?_ ?_|refine z42 (xs := ?_) (ys := ?_) ?_ ?_ ?_ ?_|refine z43 (xs := ?_) ?_|refine z44 (xs := ?_) ?_|refine z45 (x := ?_) (xs := ?_) ?_ ?_|refine RowsAre.rep (x := ?_) (n := ?_) ?_|(with_reducible show RowIs _ _ _;first|exact GTable_row _|exact GTable_mk _ _ _|exact GTableRange_row _|exact GTableRange_mk _ _ _)|with_reducible exact rfl|(refine z11 ?_;omega)|(refine z12 ?_;omega)|simp only [List.length_append,List.length_map,List.length_cons,List.length_nil,List.length_set,List.length_replicate])));rotate_right 1;(focus (repeat' (first|simp only [z1,z2,z3,Nat.reduceEqDiff,Nat.reduceLT,not_false_eq_true]|exact z29|refine z30 ?_ ?_|exact z32|refine z33 ?_ ?_|refine z31 ?_|exact z34|refine z35 rfl ?_ ?_|refine z36 ?_|exact z13|exact z14|exact z15|exact z16|refine z17 ?_|refine z18 rfl ?_|refine z20 rfl ?_ ?_|(show lτ _ _ = some _;exact rfl)|exact z21 rfl rfl|refine z21 rfl ?_|refine z22 ?_|refine z24 ?_|exact z25|refine z26 ?_ rfl rfl ?_|refine z23 ?_|refine z27 ?_ rfl rfl ?_ ?_|refine z28 ?_ rfl rfl ?_ ?_ ?_|exact True.intro|exact z4 rfl|exact z5|exact z6|exact z7|exact z8|exact z9|exact z10|refine z37 ?_|refine z38 rfl ?_|exact z39|exact z40|refine z41 (xs := ?_) (ys := ?_) ?_ ?_|refine z42 (xs := ?_) (ys := ?_) ?_ ?_ ?_ ?_|refine z43 (xs := ?_) ?_|refine z44 (xs := ?_) ?_|refine z45 (x := ?_) (xs := ?_) ?_ ?_|refine RowsAre.rep (x := ?_) (n := ?_) ?_|(with_reducible show RowIs _ _ _;first|exact GTable_row _|exact GTable_mk _ _ _|exact GTableRange_row _|exact GTableRange_mk _ _ _)|with_reducible exact rfl|(refine z11 ?_;omega)|(refine z12 ?_;omega)|simp only [List.length_append,List.length_map,List.length_cons,List.length_nil,List.length_set,List.length_replicate])));(all_goals (try (with_reducible refine z48 ?_);try with_reducible exact rfl));(all_goals (try (with_reducible refine z49 ?_);exact rfl))))
  all_goals (try clear h1); all_goals (try clear K1); all_goals (try clear hK); all_goals (try clear K); all_goals (try dsimp only); all_goals (try simp only [Bool.not_eq_false', Bool.not_eq_true', decide_eq_true_eq, decide_eq_false_iff_not] at *); all_goals (try simp only [GTable_eta, GTableRange_eta] at *)
  all_goals first
    | omega
    | (simp only [List.length_cons,List.length_nil,Nat.reduceAdd];done)
    | (simp only [List.length_set,List.length_append,List.length_cons,List.length_nil,List.length_map,List.length_take,List.length_drop];omega)
    | (obtain ⟨x,_,rfl⟩ := List.mem_map.1 (by assumption);rfl)
    | (obtain ⟨x,_,rfl⟩ := List.mem_map.1 (List.mem_of_mem_take (by assumption));rfl)
    | (obtain ⟨x,_,rfl⟩ := List.mem_map.1 (List.mem_of_mem_drop (List.mem_of_mem_take (by assumption)));rfl)
    | (simp (disch := omega) only [wr_id];omega)
    | (guard_hyp t0;first|(rw [im_Table_copied];all_goals first|grind|(repeat' split) <;> first|rfl|grind))
    | grind)
theorem im_Table_copied_c : Sim_Table_copied_c := layI12
end Go.Proofs.YtlojldccjmkikaaGreat
end
