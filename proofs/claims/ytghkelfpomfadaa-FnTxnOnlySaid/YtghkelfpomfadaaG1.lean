/- Contracts of the reader of drawn bytes. -/
import Derived.Test.YtghkelfpomfadaaSx
set_option linter.unusedVariables false
set_option linter.unusedSimpArgs false
section
namespace Go.Proofs.Ytghkelfpomfadaa
open Go.Ae
open Go.Ae renaming getR_eq → z1, getR_ne → z2, getR_nil → z3, lF_mk → z4, cont1 → z5, cont2a → z6, cont2b → z7, cont3a → z8, cont3b → z9, cont3c → z10, wr_up → z11, wr_dn → z12
open Go.Ae.VSub renaming any' → z13, same → z14, nilRd → z15, mtRd → z16, lit → z17, ptr' → z18, slNil → z19, agg' → z20, tup' → z21, fn' → z22, rpSame → z23, rpF → z24, frz → z25, frzC → z26
open Go.Ae.LSub renaming nil' → z27, cons' → z28, mkR' → z29
open Go.Ae.SSub renaming nil' → z30, cons' → z31
open Go.Ae.HTell renaming nil' → z32, some' → z33, freshRows → z34
open Go.Ae.BSub renaming cells' → z35, own → z36
open Go.Ae.RowsAre renaming map → z37, nil → z38, app → z39, spl → z40, take → z41, drop → z42, cons → z43
set_option linter.unusedSimpArgs false
set_option linter.unusedVariables false
attribute [local irreducible] wr bitsOf VSub LSub SSub HTell BSub RowIs RowsAre Ent lF mkR
def sp_l6In (n : Int) (low : Int) (high : Int) : Bool :=
  ((decide (n ≥ low)) && (decide (n ≤ high)))
def sp_l6Rd_pick (r : Gl6Rd) (n : Int) : Int × Gl6Rd :=
  let r := { r with p := (wr .i64 (r.p + 1)) }
  if ((n < 1) ∨ ((r.b.length : Int) = 0)) then
    (0, r)
  else 
    let k := (wr .i64 (r.p - 1))
    if (k < (r.b.length : Int)) then
      ((((r.b.getD k.toNat default).toNat : Int).tmod n), r)
    else 
      let x := (wr .i64 ((wr .i64 ((wr .i64 ((wr .i64 (((r.b.getD (k.tmod (r.b.length : Int)).toNat default).toNat : Int) * 131)) + (wr .i64 (((r.b.getD ((wr .i64 ((wr .i64 (k * 7)) + 3)).tmod (r.b.length : Int)).toNat default).toNat : Int) * 1117)))) + (wr .i64 (k * 29)))) + (wr .i64 ((wr .i64 (k.tdiv (r.b.length : Int))) * 53))))
      let x := (bitsOf .xor .i64 x (wr .i64 (x.tdiv 64)))
      ((x.tmod n), r)
def sp_l6Open (code : List UInt8) : Gl6Rd :=
  let q := if ((code.length : Int) > 2000) then
      let code := (code.take 2000)
      code
    else 
      code
  let code := q
  (⟨code, 0⟩ : Gl6Rd)
def Ssp_l6In_c : Prop := ∀ (n : Int) (low : Int) (high : Int), Gives Try.prog 25 [.lit (.int .i64 n), .lit (.int .i64 low), .lit (.int .i64 high)] (.lit (.bool (sp_l6In n low high)))
def Ssp_l6Rd_pick_c : Prop := ∀ (r : Gl6Rd) (n : Int) (hp0 : r.b.length ≤ 2147483648) (hp1 : 0 ≤ r.p) (hp2 : r.p ≤ 1000000000000), Does Try.prog 33 1 [.ptr 0 2 0 0, .lit (.int .i64 n)] [some (.cells [.r (.rd 1 encU8 r.b), .lit (.int .i64 r.p)])] (fun vv H2 => vv = .lit (.int .i64 (sp_l6Rd_pick r n).1) ∧ H2 = [some (.cells [.r (.rd 1 encU8 (sp_l6Rd_pick r n).2.b), .lit (.int .i64 (sp_l6Rd_pick r n).2.p)])])
def Ssp_l6Open_c : Prop := ∀ (code : List UInt8) (hp0 : code.length ≤ 2147483648), Does Try.prog 15 0 [.r (.rd 1 encU8 code)] [] (fun vv H2 => vv = .ptr 0 2 0 0 ∧ H2 = [some (.cells [.r (.rd 1 encU8 (sp_l6Open code).b), .lit (.int .i64 (sp_l6Open code).p)])])
set_option maxRecDepth 10000 in
set_option maxHeartbeats 6000000 in
theorem layG11 : (Ssp_l6In_c) ∧ (Ssp_l6Rd_pick_c) ∧ (Ssp_l6Open_c) := by
  refine ⟨fun n low high => have t0 := tg 0; Does.goR Try.func25 Try.ntmps25 Try.results25 rfl (Nat.zero_le _) rfl ?_,
    fun r n hp0 hp1 hp2 => have t1 := tg 1; Does.goR Try.func33 Try.ntmps33 Try.results33 rfl (by simp) rfl ?_,
    fun code hp0 => have t2 := tg 2; Does.goR Try.func15 Try.ntmps15 Try.results15 rfl (Nat.zero_le _) rfl ?_⟩
  all_goals (
  simp only [argR, Nat.reduceAdd]
  repeat' (first
    | ((with_reducible show Aft _ _ _ _);(first|refine Aft.t ?_|refine Aft.q ?_|refine Aft.b ?_|refine Aft.e ?_|refine Aft.tr ?_|refine Aft.br ?_|refine Aft.qr ?_|refine Aft.tx ?_|refine Aft.bx ?_|refine Aft.by' rfl ?_|refine Aft.qx ?_))
    | ((with_reducible show RegS _ _ _ _ _ _);(first
      | (refine RegS.nil (hK _ _ ?_);clear hK K)
      | ((first|refine RegS.stepN fun K1 h1 => ?_|refine RegS.step fun K1 h1 => ?_);simp only [go_sem,reduceCtorEq,Nat.reduceAdd,Nat.reduceSub,Nat.reduceMul,Nat.reduceLeDiff,Nat.reduceLT,Nat.reduceEqDiff])))
    | ((with_reducible show QuietS _ _ _ _ _ _);(first
      | (refine QuietS.nil (hK _ _ ?_);clear hK K)
      | ((first|refine QuietS.stepN fun K1 h1 => ?_|refine QuietS.step fun K1 h1 => ?_);simp only [go_sem,reduceCtorEq,Nat.reduceAdd,Nat.reduceSub,Nat.reduceMul,Nat.reduceLeDiff,Nat.reduceLT,Nat.reduceEqDiff])))
    | ((with_reducible show Tri _ _ _ _ _ _);(first
      | (refine Tri.regSeq fun K hK => RegS.run ?_)
      | (refine Tri.regA fun K hK => ?_)
      | (refine Tri.cond (b := ?_) ?_ ?_ ?_;rotate_left 1;focus (simp only [ev,z1,z2,Nat.reduceEqDiff,Nat.reduceLT,not_false_eq_true];exact rfl))
      | refine Tri.skipA ?_
      | refine Tri.exitA ?_
      | refine Tri.retA ?_
      | refine Tri.block ?_
      | (guard_hyp t1;(first|(refine Tri.fastSeqN 7 rfl mixedP (by kernel_rfl) fun K hK => QuietS.run ?_)|(refine Tri.fastA 7 rfl mixedP (by kernel_rfl) fun K hK => ?_) ))
      | refine Tri.seq ?_))
    | ((with_reducible show EndK _ _ _ _ _ _ _);(first
      | ((guard_hyp t0;refine EndK.eqv (vs := ?_) (f := fun x : Bool => .lit (.bool x)) ?_ (by first|exact .inr rfl|exact .inl rfl) ?_ ?_ ?_;rotate_left 2);(focus (simp only [go_sem,reduceCtorEq,Nat.reduceAdd,Nat.reduceSub,Nat.reduceMul,Nat.reduceLeDiff,Nat.reduceLT,Nat.reduceEqDiff];exact rfl));(focus (repeat' (first|simp only [z1,z2,z3,Nat.reduceEqDiff,Nat.reduceLT,not_false_eq_true]|exact z27|refine z28 ?_ ?_|exact z30|refine z31 ?_ ?_|refine z29 ?_|exact z32|refine z33 rfl ?_ ?_|refine z34 ?_|exact z13|exact z14|exact z15|exact z16|refine z17 ?_|refine z18 rfl ?_|refine VSub.sl' rfl ?_ ?_|(show lτ _ _ = some _;exact rfl)|exact z19 rfl rfl|refine z19 rfl ?_|refine z20 ?_|refine z22 ?_|exact z23|refine z24 ?_ rfl rfl ?_|refine z21 ?_|refine z25 ?_ rfl rfl ?_ ?_|refine z26 ?_ rfl rfl ?_ ?_ ?_|exact True.intro|exact z4 rfl|exact z5|exact z6|exact z7|exact z8|exact z9|exact z10|refine z35 ?_|refine z36 rfl ?_|exact z37|exact z38|refine z39 (xs := ?_) (ys := ?_) ?_ ?_|refine z40 (xs := ?_) (ys := ?_) ?_ ?_ ?_ ?_|refine z41 (xs := ?_) ?_|refine z42 (xs := ?_) ?_|refine z43 (x := ?_) (xs := ?_) ?_ ?_|refine RowsAre.rep (x := ?_) (n := ?_) ?_|(with_reducible show RowIs _ _ _;first|exact Int_row _|exact Str_row _)|(with_reducible show RowIs _ _ _;first|exact Gl6Rd_row _|exact Gl6Rd_mk _ _)|with_reducible exact rfl|(refine z11 ?_;omega)|(refine z12 ?_;omega)|simp only [List.length_append,List.length_map,List.length_cons,List.length_nil,List.length_set,List.length_replicate]))))
      | ((first
      | (guard_hyp t1;refine EndK.eqq (p := 1) (vs := ?_) (f := fun x : Int × Gl6Rd => .lit (.int .i64 x.1)) (g := fun x : Int × Gl6Rd => [some (.cells [.r (.rd 1 encU8 x.2.b),.lit (.int .i64 x.2.p)])]) (?_,⟨?_,?_⟩) [some 0] (by first|exact .inr rfl|exact .inl rfl) ?_ ?_ ?_ (by simp) ?_ ?_ ?_;rotate_left 4)
      | (guard_hyp t2;refine EndK.eqq (p := 0) (vs := ?_) (f := fun x : Gl6Rd => .ptr 0 2 0 0) (g := fun x : Gl6Rd => [some (.cells [.r (.rd 1 encU8 x.b),.lit (.int .i64 x.p)])]) ⟨?_,?_⟩ [some ?_] (by first|exact .inr rfl|exact .inl rfl) ?_ ?_ ?_ (by simp) ?_ ?_ ?_;rotate_left 4)
      ); (focus (simp only [go_sem, reduceCtorEq, Nat.reduceAdd, Nat.reduceSub, Nat.reduceMul, Nat.reduceLeDiff, Nat.reduceLT, Nat.reduceEqDiff]; exact rfl)); rotate_left 3; (focus (repeat' (first | simp only [z1, z2, z3, Nat.reduceEqDiff, Nat.reduceLT, not_false_eq_true] | exact z27 | refine z28 ?_ ?_ | exact z30 | refine z31 ?_ ?_ | refine z29 ?_ | exact z32 | refine z33 rfl ?_ ?_ | refine z34 ?_ | exact z13 | exact z14 | exact z15 | exact z16 | refine z17 ?_ | refine z18 rfl ?_ | refine VSub.slD rfl ?_ ?_ | (show lτ _ _ = some _; exact rfl) | exact z19 rfl rfl | refine z19 rfl ?_ | refine z20 ?_ | refine z22 ?_ | exact z23 | refine z24 ?_ rfl rfl ?_ | refine z21 ?_ | refine z25 ?_ rfl rfl ?_ ?_ | refine z26 ?_ rfl rfl ?_ ?_ ?_ | exact True.intro | exact z4 rfl | exact z5 | exact z6 | exact z7 | exact z8 | exact z9 | exact z10 | refine z35 ?_ | refine z36 rfl ?_ | exact z37 | exact z38 | refine z39 (xs := ?_) (ys := ?_) ?_ ?_ | refine z40 (xs := ?_) (ys := ?_) ?_ ?_ ?_ ?_ | refine z41 (xs := ?_) ?_ | refine z42 (xs := ?_) ?_ | refine z43 (x := ?_) (xs := ?_) ?_ ?_ | refine RowsAre.rep (x := ?_) (n := ?_) ?_ | (with_reducible show RowIs _ _ _; first | exact Int_row _ | exact Str_row _) | (with_reducible show RowIs _ _ _; first | exact Gl6Rd_row _ | exact Gl6Rd_mk _ _) | with_reducible exact rfl | (refine z11 ?_; omega) | (refine z12 ?_; omega) | simp only [List.length_append, List.length_map, List.length_cons, List.length_nil, List.length_set, List.length_replicate]))); rotate_right 1; (focus (repeat' (first | simp only [z1, z2, z3, Nat.reduceEqDiff, Nat.reduceLT, not_false_eq_true] | exact z27 | refine z28 ?_ ?_ | exact z30 | refine z31 ?_ ?_ | refine z29 ?_ | exact z32 | refine z33 rfl ?_ ?_ | refine z34 ?_ | exact z13 | exact z14 | exact z15 | exact z16 | refine z17 ?_ | refine z18 rfl ?_ | refine VSub.slD rfl ?_ ?_ | (show lτ _ _ = some _; exact rfl) | exact z19 rfl rfl | refine z19 rfl ?_ | refine z20 ?_ | refine z22 ?_ | exact z23 | refine z24 ?_ rfl rfl ?_ | refine z21 ?_ | refine z25 ?_ rfl rfl ?_ ?_ | refine z26 ?_ rfl rfl ?_ ?_ ?_ | exact True.intro | exact z4 rfl | exact z5 | exact z6 | exact z7 | exact z8 | exact z9 | exact z10 | refine z35 ?_ | refine z36 rfl ?_ | exact z37 | exact z38 | refine z39 (xs := ?_) (ys := ?_) ?_ ?_ | refine z40 (xs := ?_) (ys := ?_) ?_ ?_ ?_ ?_ | refine z41 (xs := ?_) ?_ | refine z42 (xs := ?_) ?_ | refine z43 (x := ?_) (xs := ?_) ?_ ?_ | refine RowsAre.rep (x := ?_) (n := ?_) ?_ | (with_reducible show RowIs _ _ _; first | exact Int_row _ | exact Str_row _) | (with_reducible show RowIs _ _ _; first | exact Gl6Rd_row _ | exact Gl6Rd_mk _ _) | with_reducible exact rfl | (refine z11 ?_; omega) | (refine z12 ?_; omega) | simp only [List.length_append, List.length_map, List.length_cons, List.length_nil, List.length_set, List.length_replicate]))); (all_goals (try (with_reducible refine LenEq.mk ?_); try with_reducible exact rfl)); (all_goals (try (with_reducible refine BoolIs.mk ?_); exact rfl)))))
    | (refine h1 _ _ ?_;clear h1 K1)
    | (with_reducible refine GInt_ex _ ?_)
    | refine And.intro ?_ ?_
    | ((first|with_reducible show (_ : Int) ≤ _|with_reducible show (_ : Int) < _|with_reducible show (_ : Int) = _|with_reducible show (_ : Nat) ≤ _|with_reducible show (_ : Nat) < _|with_reducible show (_ : Nat) = _|with_reducible show ¬ _|with_reducible show _ ≠ _|with_reducible show False);omega)
    | (intro h;(try simp only [decide_eq_true_eq,decide_eq_false_iff_not,Int.not_lt,Int.not_le,beq_iff_eq,bne_iff_ne,beq_eq_false_iff_ne,bne_eq_false_iff_eq,ne_eq,Bool.not_eq_true',Bool.not_eq_false',Decidable.not_not] at h);(try contradiction)))
  all_goals (try clear h1); all_goals (try clear K1); all_goals (try clear hK); all_goals (try clear K); all_goals (try dsimp only); all_goals (try simp only [Bool.not_eq_false', Bool.not_eq_true', decide_eq_true_eq, decide_eq_false_iff_not] at *); all_goals (try simp only [Gl6Rd_eta] at *)
  all_goals first
    | omega
    | (guard_hyp t1;first|((simp (disch := omega) only [wr_id];exact tmod_ge (by omega)))|((simp (disch := omega) only [wr_id];exact tmod_lt (by omega)))|((simp (disch := omega) only [wr_id];exact tmod_ltN (by omega) (by omega))))
    | (simp only [List.length_cons,List.length_nil,Nat.reduceAdd];done)
    | (simp only [List.length_set,List.length_append,List.length_cons,List.length_nil,List.length_map,List.length_take,List.length_drop];omega)
    | (obtain ⟨x,_,rfl⟩ := List.mem_map.1 (by assumption);rfl)
    | (obtain ⟨x,_,rfl⟩ := List.mem_map.1 (List.mem_of_mem_take (by assumption));rfl)
    | (obtain ⟨x,_,rfl⟩ := List.mem_map.1 (List.mem_of_mem_drop (List.mem_of_mem_take (by assumption)));rfl)
    | (simp (disch := omega) only [wr_id];omega)
    | (guard_hyp t0;first|(rw [sp_l6In];all_goals first|grind|(repeat' split) <;> first|rfl|grind))
    | (guard_hyp t1;first|(rw [sp_l6Rd_pick];all_goals first|grind|(repeat' split) <;> first|rfl|grind))
    | (guard_hyp t2;first|(rw [sp_l6Open];all_goals first|grind|(repeat' split) <;> first|rfl|grind))
    | grind)
theorem sp_l6In_c : Ssp_l6In_c := layG11.1
theorem sp_l6Rd_pick_c : Ssp_l6Rd_pick_c := layG11.2.1
theorem sp_l6Open_c : Ssp_l6Open_c := layG11.2.2
end Go.Proofs.Ytghkelfpomfadaa
end
section
/-! Plain facts on the reader of codes. -/
namespace Go.Proofs.Ytghkelfpomfadaa
open Go.Ae
theorem tdiv_bd {a b : Int} (h0 : 0 ≤ a) (hb : 0 < b) : 0 ≤ a.tdiv b ∧ a.tdiv b ≤ a := by
  rw [Int.tdiv_eq_ediv_of_nonneg h0]
  exact ⟨Int.ediv_nonneg h0 (by omega), Int.ediv_le_self _ h0⟩
theorem xor_nn {x y : Int} (h0 : 0 ≤ x) (h1 : x ≤ 9223372036854775807) (g0 : 0 ≤ y) (g1 : y ≤ 9223372036854775807) : 0 ≤ bitsOf .xor .i64 x y := by
  have e1 : ∀ z : Int, 0 ≤ z → z ≤ 9223372036854775807 → (BitVec.ofInt 64 z).toNat = z.toNat := fun z a b => by
    rw [BitVec.toNat_ofInt]
    have : z % ((2 ^ 64 : Nat) : Int) = z := Int.emod_eq_of_lt a (by
      have : ((2 ^ 64 : Nat) : Int) = 18446744073709551616 := by decide
      omega)
    rw [this]
  show 0 ≤ IntKind.i64.wrap ((BitVec.ofInt 64 x ^^^ BitVec.ofInt 64 y).toNat : Int)
  rw [BitVec.toNat_xor, e1 x h0 h1, e1 y g0 g1]
  have h3 : x.toNat ^^^ y.toNat < 2 ^ 63 := Nat.xor_lt_two_pow (by omega) (by omega)
  have h4 : (2 : Nat) ^ 63 = 9223372036854775808 := by decide
  have h5 : IntKind.i64.wrap ((x.toNat ^^^ y.toNat : Nat) : Int) = ((x.toNat ^^^ y.toNat : Nat) : Int) := wr_id (by omega) (by omega)
  rw [h5]
  omega
theorem pick_p (r : Gl6Rd) (n : Int) : (sp_l6Rd_pick r n).2.p = wr .i64 (r.p + 1) := by
  unfold sp_l6Rd_pick
  simp only []
  split
  · rfl
  · split <;> rfl
theorem pick_b (r : Gl6Rd) (n : Int) : (sp_l6Rd_pick r n).2.b = r.b := by
  unfold sp_l6Rd_pick
  simp only []
  split
  · rfl
  · split <;> rfl
theorem pick_bd {r : Gl6Rd} (n : Int) (h0 : 0 ≤ r.p) (h1 : r.p ≤ 1000000000000) : 0 ≤ (sp_l6Rd_pick r n).1 ∧ (1 ≤ n → (sp_l6Rd_pick r n).1 < n) := by
  unfold sp_l6Rd_pick
  simp only []
  rw [wr_id (n := r.p + 1) (by omega) (by omega), wr_id (n := r.p + 1 - 1) (by omega) (by omega), Int.add_sub_cancel]
  split
  · exact ⟨Int.le_refl _, fun h => h⟩
  · rename_i hn
    have hn1 : 1 ≤ n := by omega
    split
    · exact ⟨tmod_ge (by omega), fun _ => tmod_lt (by omega)⟩
    · refine ⟨tmod_ge ?_, fun _ => tmod_lt (by omega)⟩
      generalize (r.b.getD (r.p.tmod (r.b.length : Int)).toNat default) = b1
      generalize (r.b.getD _ default) = b2
      have g1 := b1.toNat_lt
      have g2 := b2.toNat_lt
      have g3 := tdiv_bd (a := r.p) (b := (r.b.length : Int)) h0 (by omega)
      generalize r.p.tdiv (r.b.length : Int) = q at g3
      simp (disch := omega) only [wr_id]
      have g4 := tdiv_bd (a := (b1.toNat : Int) * 131 + (b2.toNat : Int) * 1117 + r.p * 29 + q * 53) (b := 64) (by omega) (by omega)
      simp (disch := omega) only [wr_id]
      exact xor_nn (by omega) (by omega) g4.1 (by omega)
end Go.Proofs.Ytghkelfpomfadaa
end
