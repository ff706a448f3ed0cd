/- Contracts of the reader of drawn bytes. -/
import Derived.Test.YtlojldccjmkikaaG2
set_option linter.unusedVariables false
set_option linter.unusedSimpArgs false
section
namespace Go.Proofs.Ytlojldccjmkikaa
open Go.Ae
open Go.Ae renaming getR_eq → z1, getR_ne → z2
open Go.Ae.VSub renaming slNil → z3
set_option linter.unusedSimpArgs false
set_option linter.unusedVariables false
attribute [local irreducible] wr bitsOf VSub LSub SSub HTell BSub RowIs RowsAre Ent lF mkR
def sp_l6Rd_pick (r : Gl6Rd) (n : Int) : Int × Gl6Rd :=
  let r := { r with p := (wr .i64 (r.p + 1)) }
  if ((n < 1) ∨ ((r.b.length : Int) = 0)) then
    (0, r)
  else 
    let k := (wr .i64 (r.p - 1))
    if (k < (r.b.length : Int)) then
      ((((r.b.getD k.toNat default).toNat : Int).tmod n), r)
    else 
      let x := (wr .i64 ((wr .i64 ((wr .i64 ((wr .i64 (((r.b.getD (k.tmod (r.b.length : Int)).toNat default).toNat : Int) * 131)) + (wr .i64 (((r.b.getD ((wr .i64 ((wr .i64 (k * 7)) + 3)).tmod (r.b.length : Int)).toNat default).toNat : Int) * 1117)))) + (wr .i64 (k * 29)))) + (wr .i64 ((wr .i64 (k.tdiv (r.b.length : Int))) * 53))))
      let x := (bitsOf .xor .i64 x (wr .i64 (x.tdiv 64)))
      ((x.tmod n), r)
def sp_l6Open (code : List UInt8) : Gl6Rd :=
  let q := if ((code.length : Int) > 2000) then
      let code := (code.take 2000)
      code
    else 
      code
  let code := q
  (⟨code, 0⟩ : Gl6Rd)
def Ssp_l6Rd_pick_c : Prop := ∀ (r : Gl6Rd) (n : Int) (hp0 : r.b.length ≤ 2147483648) (hp1 : 0 ≤ r.p) (hp2 : r.p ≤ 1000000000000), Does Try.prog 52 1 [.ptr 0 2 0 0, .lit (.int .i64 n)] [some (.cells [.r (.rd 1 encU8 r.b), .lit (.int .i64 r.p)])] (fun vv H2 => vv = .lit (.int .i64 (sp_l6Rd_pick r n).1) ∧ H2 = [some (.cells [.r (.rd 1 encU8 (sp_l6Rd_pick r n).2.b), .lit (.int .i64 (sp_l6Rd_pick r n).2.p)])])
def Ssp_l6Open_c : Prop := ∀ (code : List UInt8) (hp0 : code.length ≤ 2147483648), Does Try.prog 50 0 [.r (.rd 1 encU8 code)] [] (fun vv H2 => vv = .ptr 0 2 0 0 ∧ H2 = [some (.cells [.r (.rd 1 encU8 (sp_l6Open code).b), .lit (.int .i64 (sp_l6Open code).p)])])
set_option maxRecDepth 10000 in
set_option maxHeartbeats 4000000 in
theorem layG41 : (Ssp_l6Rd_pick_c) ∧ (Ssp_l6Open_c) := by
  refine ⟨fun r n hp0 hp1 hp2 => have t0 := tg 0; Does.goR Try.func52 Try.ntmps52 Try.results52 rfl (by simp) rfl ?_,
    fun code hp0 => have t1 := tg 1; Does.goR Try.func50 Try.ntmps50 Try.results50 rfl (Nat.zero_le _) rfl ?_⟩
  all_goals (
  simp only [argR, Nat.reduceAdd]
  repeat' (first
    | (refine Tri.regSeq fun K hK => RegS.run ?_)
    | (refine Tri.reg fun K hK => RegS.run ?_)
    | (guard_hyp t0; (first | (refine Tri.fastSeqN 7 rfl mixedP (by kernel_rfl) fun K hK => QuietS.run ?_) | (refine Tri.fastN 7 rfl mixedP (by kernel_rfl) fun K hK => QuietS.run ?_) ))
    | (refine RegS.nil (hK _ _ ?_); clear hK K)
    | (refine QuietS.nil (hK _ _ ?_); clear hK K)
    | ((first | refine RegS.step fun K1 h1 => ?_ | refine QuietS.step fun K1 h1 => ?_); simp only [go_sem, reduceCtorEq, Nat.reduceAdd, Nat.reduceSub, Nat.reduceMul, Nat.reduceLeDiff, Nat.reduceLT, Nat.reduceEqDiff])
    | (with_reducible refine GInt_ex _ ?_)
    | (refine h1 _ _ ?_; clear h1 K1)
    | refine And.intro ?_ ?_
    | omega
    | (refine Tri.cond (b := ?_) ?_ ?_ ?_; rotate_left 1; focus (simp only [ev, z1, z2, Nat.reduceEqDiff, Nat.reduceLT, not_false_eq_true]; exact rfl))
    | (intro h; (try simp only [decide_eq_true_eq, decide_eq_false_iff_not, Int.not_lt, Int.not_le, beq_iff_eq, bne_iff_ne, beq_eq_false_iff_ne, bne_eq_false_iff_eq, ne_eq, Bool.not_eq_true', Bool.not_eq_false', Decidable.not_not] at h); (try contradiction))
    | (refine Tri.skip ?_; try change Tri _ _ _ _ _ _)
    | (refine Tri.exit ?_; try change Tri _ _ _ _ _ _)
    | refine Tri.ret ?_
    | refine Tri.block ?_
    | refine Tri.seq ?_
    | ((first
      | (guard_hyp t0; refine EndK.eqq (p := 1) (vs := ?_) (f := fun x : Int × Gl6Rd => .lit (.int .i64 x.1)) (g := fun x : Int × Gl6Rd => [some (.cells [.r (.rd 1 encU8 x.2.b), .lit (.int .i64 x.2.p)])]) (?_, ⟨?_, ?_⟩) [some 0] (by first | exact .inr rfl | exact .inl rfl) ?_ ?_ ?_ (by simp) ?_ ?_ ?_; rotate_left 4)
      | (guard_hyp t1; refine EndK.eqq (p := 0) (vs := ?_) (f := fun x : Gl6Rd => .ptr 0 2 0 0) (g := fun x : Gl6Rd => [some (.cells [.r (.rd 1 encU8 x.b), .lit (.int .i64 x.p)])]) ⟨?_, ?_⟩ [some ?_] (by first | exact .inr rfl | exact .inl rfl) ?_ ?_ ?_ (by simp) ?_ ?_ ?_; rotate_left 4)
      ); (focus (simp only [go_sem, reduceCtorEq, Nat.reduceAdd, Nat.reduceSub, Nat.reduceMul, Nat.reduceLeDiff, Nat.reduceLT, Nat.reduceEqDiff]; exact rfl)); rotate_left 3; (focus (repeat' (first | simp only [z1, z2, getR_nil, Nat.reduceEqDiff, Nat.reduceLT, not_false_eq_true] | exact LSub.nil' | refine LSub.cons' ?_ ?_ | exact SSub.nil' | refine SSub.cons' ?_ ?_ | refine LSub.mkR' ?_ | exact HTell.nil' | refine HTell.some' rfl ?_ ?_ | refine HTell.freshRows ?_ | exact VSub.any' | exact VSub.same | exact VSub.nilRd | exact VSub.mtRd | refine VSub.lit ?_ | refine VSub.ptr' rfl ?_ | refine VSub.slD rfl ?_ ?_ | (show lτ _ _ = some _; exact rfl) | exact z3 rfl rfl | refine z3 rfl ?_ | refine VSub.agg' ?_ | refine VSub.fn' ?_ | exact VSub.rpSame | refine VSub.rpF ?_ rfl rfl ?_ | refine VSub.tup' ?_ | refine VSub.frz ?_ rfl rfl ?_ ?_ | refine VSub.frzC ?_ rfl rfl ?_ ?_ ?_ | exact True.intro | exact lF_mk rfl | exact cont1 | exact cont2a | exact cont2b | exact cont3a | exact cont3b | exact cont3c | refine BSub.cells' ?_ | refine BSub.own rfl ?_ | exact RowsAre.map | exact RowsAre.nil | refine RowsAre.app (xs := ?_) (ys := ?_) ?_ ?_ | refine RowsAre.spl (xs := ?_) (ys := ?_) ?_ ?_ ?_ ?_ | refine RowsAre.take (xs := ?_) ?_ | refine RowsAre.drop (xs := ?_) ?_ | refine RowsAre.cons (x := ?_) (xs := ?_) ?_ ?_ | (with_reducible show RowIs _ _ _; first | exact Gl6Rd_row _ | exact Gl6Rd_mk _ _) | with_reducible exact rfl | (refine wr_up ?_; omega) | (refine wr_dn ?_; omega) | simp only [List.length_append, List.length_map, List.length_cons, List.length_nil]))); rotate_right 1; (focus (repeat' (first | simp only [z1, z2, getR_nil, Nat.reduceEqDiff, Nat.reduceLT, not_false_eq_true] | exact LSub.nil' | refine LSub.cons' ?_ ?_ | exact SSub.nil' | refine SSub.cons' ?_ ?_ | refine LSub.mkR' ?_ | exact HTell.nil' | refine HTell.some' rfl ?_ ?_ | refine HTell.freshRows ?_ | exact VSub.any' | exact VSub.same | exact VSub.nilRd | exact VSub.mtRd | refine VSub.lit ?_ | refine VSub.ptr' rfl ?_ | refine VSub.slD rfl ?_ ?_ | (show lτ _ _ = some _; exact rfl) | exact z3 rfl rfl | refine z3 rfl ?_ | refine VSub.agg' ?_ | refine VSub.fn' ?_ | exact VSub.rpSame | refine VSub.rpF ?_ rfl rfl ?_ | refine VSub.tup' ?_ | refine VSub.frz ?_ rfl rfl ?_ ?_ | refine VSub.frzC ?_ rfl rfl ?_ ?_ ?_ | exact True.intro | exact lF_mk rfl | exact cont1 | exact cont2a | exact cont2b | exact cont3a | exact cont3b | exact cont3c | refine BSub.cells' ?_ | refine BSub.own rfl ?_ | exact RowsAre.map | exact RowsAre.nil | refine RowsAre.app (xs := ?_) (ys := ?_) ?_ ?_ | refine RowsAre.spl (xs := ?_) (ys := ?_) ?_ ?_ ?_ ?_ | refine RowsAre.take (xs := ?_) ?_ | refine RowsAre.drop (xs := ?_) ?_ | refine RowsAre.cons (x := ?_) (xs := ?_) ?_ ?_ | (with_reducible show RowIs _ _ _; first | exact Gl6Rd_row _ | exact Gl6Rd_mk _ _) | with_reducible exact rfl | (refine wr_up ?_; omega) | (refine wr_dn ?_; omega) | simp only [List.length_append, List.length_map, List.length_cons, List.length_nil]))); (all_goals (try (with_reducible refine LenEq.mk ?_); try with_reducible exact rfl)); (all_goals (try (with_reducible refine BoolIs.mk ?_); exact rfl))))
  all_goals (try clear h1); all_goals (try clear K1); all_goals (try clear hK); all_goals (try clear K); all_goals (try dsimp only); all_goals (try simp only [Bool.not_eq_false', Bool.not_eq_true', decide_eq_true_eq, decide_eq_false_iff_not] at *); all_goals (try simp only [Gl6Rd_eta] at *)
  all_goals first
    | omega
    | (guard_hyp t0; first | ((simp (disch := omega) only [wr_id]; exact tmod_ge (by omega))) | ((simp (disch := omega) only [wr_id]; exact tmod_lt (by omega))) | ((simp (disch := omega) only [wr_id]; exact tmod_ltN (by omega) (by omega))))
    | (simp only [List.length_set, List.length_append, List.length_cons, List.length_nil, List.length_map, List.length_take, List.length_drop]; omega)
    | (obtain ⟨x, _, rfl⟩ := List.mem_map.1 (by assumption); rfl)
    | (obtain ⟨x, _, rfl⟩ := List.mem_map.1 (List.mem_of_mem_take (by assumption)); rfl)
    | (obtain ⟨x, _, rfl⟩ := List.mem_map.1 (List.mem_of_mem_drop (List.mem_of_mem_take (by assumption))); rfl)
    | (simp (disch := omega) only [wr_id]; omega)
    | (guard_hyp t0; first | (rw [sp_l6Rd_pick]; all_goals first | grind | (repeat' split) <;> first | rfl | grind))
    | (guard_hyp t1; first | (rw [sp_l6Open]; all_goals first | grind | (repeat' split) <;> first | rfl | grind))
    | grind)
theorem sp_l6Rd_pick_c : Ssp_l6Rd_pick_c := layG41.1
theorem sp_l6Open_c : Ssp_l6Open_c := layG41.2
end Go.Proofs.Ytlojldccjmkikaa
end
section
namespace Go.Proofs.Ytlojldccjmkikaa
open Go.Ae
theorem l2Copy_eq (t : GTable) : sp_l2Copy t = t := by simp [sp_l2Copy]
theorem l2At_L (t : GTable) (key : Int) : ∀ (m i : Nat), t.Ranges.length - i = m → match sp_l2At_L1 key t i with
    | .ret r => (i : Int) ≤ r ∧ r < t.Ranges.length
    | .go _ => True := by
  intro m
  induction m with
  | zero => intro i h; rw [sp_l2At_L1, dif_neg (by omega)]; trivial
  | succ m ih =>
    intro i h
    have := ih (i + 1) (by omega)
    rw [sp_l2At_L1, dif_pos (by omega)]
    grind
theorem l2At_bd (t : GTable) (key : Int) : sp_l2At t key = -1 ∨ (0 ≤ sp_l2At t key ∧ sp_l2At t key < t.Ranges.length) := by
  have := l2At_L t key _ 0 rfl
  simp only [sp_l2At, sp_l2At_K1]
  revert this
  cases sp_l2At_L1 key t 0 <;> intro this
  · right; simp only at this ⊢; omega
  · left; rfl
theorem l2At_lt {t : GTable} {key : Int} (h : 0 ≤ sp_l2At t key) : sp_l2At t key < t.Ranges.length := by
  rcases l2At_bd t key with h1 | h1 <;> omega
theorem l2May_mem {t : GTable} (h : sp_l2May t = 0) : 1 ≤ t.Members ∧ t.Members ≤ 31 ∧ t.Ranges.length ≤ 8 ∧ 1 ≤ t.Epoch ∧ t.Epoch < 9999 ∧ sp_TableOk t = true := by
  grind [sp_l2May, sp_TableOk]
theorem l2Has_bd {m n : Int} (h : sp_l2Has m n = true) : 0 ≤ n ∧ n ≤ 4 := by
  simp only [sp_l2Has, Bool.and_eq_true] at h
  exact l6In_iff.1 h.1
end Go.Proofs.Ytlojldccjmkikaa
end
