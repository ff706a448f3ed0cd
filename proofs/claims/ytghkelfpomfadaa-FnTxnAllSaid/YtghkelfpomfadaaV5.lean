/- Contracts of slices.Clone and slices.Compact at numbers, for lists whose lengths are bounded as stated. -/
import Derived.Test.YtghkelfpomfadaaG1
import Derived.Test.YtghkelfpomfadaaSx
set_option linter.unusedVariables false
set_option linter.unusedSimpArgs false
section
namespace Go.Proofs.Ytghkelfpomfadaa
open Go.Ae
open Go.Ae renaming getR_eq → z1, getR_ne → z2
open Go.Ae.VSub renaming slNil → z3
set_option linter.unusedSimpArgs false
set_option linter.unusedVariables false
attribute [local irreducible] wr bitsOf VSub LSub SSub HTell BSub RowIs RowsAre Ent lF mkR
def slices_Clone_int (s : List Int) : (List Int) :=
  s
set_option maxRecDepth 10000 in
set_option maxHeartbeats 2000000 in
theorem slices_Clone_int_c (s : List Int) (hp0 : s.length ≤ 2147483648) : Does Try.prog 18 0 [.r (.rd 1 encInt s)] [] (fun vv H2 => vv = .sl 0 1 0 (slices_Clone_int s).length ∧ H2 = [some (.rows 1 aencInt (slices_Clone_int s))]) := by
  rcases s with _ | ⟨a0, l0⟩ <;> (
  refine Does.goR Try.func18 Try.ntmps18 Try.results18 rfl (Nat.zero_le _) rfl ?_
  simp only [argR, Nat.reduceAdd]
  repeat' (first
    | (refine Tri.regSeq fun K hK => RegS.run ?_)
    | (refine Tri.reg fun K hK => RegS.run ?_)
    | (refine RegS.nil (hK _ _ ?_);clear hK K)
    | (refine QuietS.nil (hK _ _ ?_);clear hK K)
    | ((first|refine RegS.stepN fun K1 h1 => ?_|refine QuietS.stepN fun K1 h1 => ?_|refine RegS.step fun K1 h1 => ?_|refine QuietS.step fun K1 h1 => ?_);simp only [go_sem,reduceCtorEq,Nat.reduceAdd,Nat.reduceSub,Nat.reduceMul,Nat.reduceLeDiff,Nat.reduceLT,Nat.reduceEqDiff])
    | (with_reducible refine GInt_ex _ ?_)
    | (refine h1 _ _ ?_;clear h1 K1)
    | refine And.intro ?_ ?_
    | omega
    | (refine Tri.cond (b := ?_) ?_ ?_ ?_;rotate_left 1;focus (simp only [ev,z1,z2,Nat.reduceEqDiff,Nat.reduceLT,not_false_eq_true];exact rfl))
    | (intro h;(try simp only [decide_eq_true_eq,decide_eq_false_iff_not,Int.not_lt,Int.not_le,beq_iff_eq,bne_iff_ne,beq_eq_false_iff_ne,bne_eq_false_iff_eq,ne_eq,Bool.not_eq_true',Bool.not_eq_false',Decidable.not_not] at h);(try contradiction);(try (exfalso;simp_all;done)))
    | (refine Tri.skip ?_;try change Tri _ _ _ _ _ _)
    | (refine Tri.exit ?_;try change Tri _ _ _ _ _ _)
    | refine Tri.ret ?_
    | refine Tri.block ?_
    | refine Tri.seq ?_
    | (refine EndK.eqq (p := 0) (vs := ?_) (f := fun x : (List Int) => .sl 0 1 0 x.length) (g := fun x : (List Int) => [some (.rows 1 aencInt x)]) ?_ [?_] (by first|exact .inr rfl|exact .inl rfl) ?_ ?_ ?_ (by simp) ?_ ?_ ?_
       rotate_left 3; (focus (simp only [go_sem, reduceCtorEq, Nat.reduceAdd, Nat.reduceSub, Nat.reduceMul, Nat.reduceLeDiff, Nat.reduceLT, Nat.reduceEqDiff]; exact rfl)); rotate_left 3; (focus (repeat' (first | simp only [z1, z2, getR_nil, Nat.reduceEqDiff, Nat.reduceLT, not_false_eq_true] | exact LSub.nil' | refine LSub.cons' ?_ ?_ | exact SSub.nil' | refine SSub.cons' ?_ ?_ | refine LSub.mkR' ?_ | exact HTell.nil' | refine HTell.some' rfl ?_ ?_ | refine HTell.freshRows ?_ | exact VSub.any' | exact VSub.same | exact VSub.nilRd | exact VSub.mtRd | refine VSub.lit ?_ | refine VSub.ptr' rfl ?_ | refine VSub.slD rfl ?_ ?_ | (show lτ _ _ = some _; exact rfl) | exact z3 rfl rfl | refine z3 rfl ?_ | refine VSub.agg' ?_ | refine VSub.fn' ?_ | exact VSub.rpSame | refine VSub.rpF ?_ rfl rfl ?_ | refine VSub.tup' ?_ | refine VSub.frz ?_ rfl rfl ?_ ?_ | refine VSub.frzC ?_ rfl rfl ?_ ?_ ?_ | exact True.intro | exact lF_mk rfl | exact cont1 | exact cont2a | exact cont2b | exact cont3a | exact cont3b | exact cont3c | refine BSub.cells' ?_ | refine BSub.own rfl ?_ | exact RowsAre.map | exact RowsAre.nil | refine RowsAre.app (xs := ?_) (ys := ?_) ?_ ?_ | refine RowsAre.spl (xs := ?_) (ys := ?_) ?_ ?_ ?_ ?_ | refine RowsAre.take (xs := ?_) ?_ | refine RowsAre.drop (xs := ?_) ?_ | refine RowsAre.cons (x := ?_) (xs := ?_) ?_ ?_ | refine RowsAre.rep (x := ?_) (n := ?_) ?_ | (with_reducible show RowIs _ _ _; first | exact Int_row _ | exact Str_row _) | with_reducible exact rfl | (refine wr_up ?_; omega) | (refine wr_dn ?_; omega) | simp only [List.length_append, List.length_map, List.length_cons, List.length_nil, List.length_set, List.length_replicate]))); rotate_right 1; (focus (repeat' (first | simp only [z1, z2, getR_nil, Nat.reduceEqDiff, Nat.reduceLT, not_false_eq_true] | exact LSub.nil' | refine LSub.cons' ?_ ?_ | exact SSub.nil' | refine SSub.cons' ?_ ?_ | refine LSub.mkR' ?_ | exact HTell.nil' | refine HTell.some' rfl ?_ ?_ | refine HTell.freshRows ?_ | exact VSub.any' | exact VSub.same | exact VSub.nilRd | exact VSub.mtRd | refine VSub.lit ?_ | refine VSub.ptr' rfl ?_ | refine VSub.slD rfl ?_ ?_ | (show lτ _ _ = some _; exact rfl) | exact z3 rfl rfl | refine z3 rfl ?_ | refine VSub.agg' ?_ | refine VSub.fn' ?_ | exact VSub.rpSame | refine VSub.rpF ?_ rfl rfl ?_ | refine VSub.tup' ?_ | refine VSub.frz ?_ rfl rfl ?_ ?_ | refine VSub.frzC ?_ rfl rfl ?_ ?_ ?_ | exact True.intro | exact lF_mk rfl | exact cont1 | exact cont2a | exact cont2b | exact cont3a | exact cont3b | exact cont3c | refine BSub.cells' ?_ | refine BSub.own rfl ?_ | exact RowsAre.map | exact RowsAre.nil | refine RowsAre.app (xs := ?_) (ys := ?_) ?_ ?_ | refine RowsAre.spl (xs := ?_) (ys := ?_) ?_ ?_ ?_ ?_ | refine RowsAre.take (xs := ?_) ?_ | refine RowsAre.drop (xs := ?_) ?_ | refine RowsAre.cons (x := ?_) (xs := ?_) ?_ ?_ | refine RowsAre.rep (x := ?_) (n := ?_) ?_ | (with_reducible show RowIs _ _ _; first | exact Int_row _ | exact Str_row _) | with_reducible exact rfl | (refine wr_up ?_; omega) | (refine wr_dn ?_; omega) | simp only [List.length_append, List.length_map, List.length_cons, List.length_nil, List.length_set, List.length_replicate]))); (all_goals (try (with_reducible refine LenEq.mk ?_); try with_reducible exact rfl)); (all_goals (try (with_reducible refine BoolIs.mk ?_); exact rfl))))
  all_goals (try clear h1); all_goals (try clear K1); all_goals (try clear hK); all_goals (try clear K); all_goals (try dsimp only); all_goals (try simp only [Bool.not_eq_false', Bool.not_eq_true', decide_eq_true_eq, decide_eq_false_iff_not] at *); all_goals (try simp only [] at *)
  all_goals first
    | omega
    | (simp only [List.length_cons,List.length_nil,Nat.reduceAdd];done)
    | (simp only [List.length_set,List.length_append,List.length_cons,List.length_nil,List.length_map,List.length_take,List.length_drop];omega)
    | (obtain ⟨x,_,rfl⟩ := List.mem_map.1 (by assumption);rfl)
    | (obtain ⟨x,_,rfl⟩ := List.mem_map.1 (List.mem_of_mem_take (by assumption));rfl)
    | (obtain ⟨x,_,rfl⟩ := List.mem_map.1 (List.mem_of_mem_drop (List.mem_of_mem_take (by assumption)));rfl)
    | (simp (disch := omega) only [wr_id];omega)
    | (rw [slices_Clone_int];all_goals first|grind|(repeat' split) <;> first|rfl|grind)
    | grind)
end Go.Proofs.Ytghkelfpomfadaa
end
section
/-! What is left of a list where of neighbours that are alike one stays. -/
namespace Go.Proofs.Ytghkelfpomfadaa
def cmpR (o : List Int) : Nat → List Int
  | 0 => []
  | n + 1 => if 0 < n ∧ o.getD n default = o.getD (n - 1) default then cmpR o n else cmpR o n ++ [o.getD n default]
theorem cmpR_eq {o : List Int} {n : Nat} (h0 : 0 < n) (h : o.getD n default = o.getD (n - 1) default) : cmpR o (n + 1) = cmpR o n := by
  simp only [cmpR]; rw [if_pos ⟨h0, h⟩]
theorem cmpR_ne {o : List Int} {n : Nat} (h : ¬ o.getD n default = o.getD (n - 1) default) : cmpR o (n + 1) = cmpR o n ++ [o.getD n default] := by
  simp only [cmpR]; rw [if_neg (fun x => h x.2)]
theorem cmpR_one {o : List Int} (h : 0 < o.length) : cmpR o 1 = o.take 1 := by
  cases o with
  | nil => simp at h
  | cons a r => simp [cmpR]
theorem take_snoc {s : List Int} {n : Nat} (h : n < s.length) : s.take (n + 1) = s.take n ++ [s.getD n default] := by
  rw [List.take_add_one, List.getD_eq_getElem?_getD, List.getElem?_eq_getElem h]; rfl
theorem take_set_snoc {s : List Int} {n : Nat} {v : Int} (h : n < s.length) : (s.set n v).take (n + 1) = s.take n ++ [v] := by
  rw [take_snoc (by rw [List.length_set]; exact h)]
  congr 1
  · rw [List.take_set_of_le (Nat.le_refl _)]
  · simp [List.getD_eq_getElem?_getD, h]
open Go.Ae
theorem cmp_start {o : List Int} {k : Int} (h1 : 1 ≤ k) (h2 : k ≤ 1000001) (hc : cmpR o k.toNat = o.take k.toNat)
    (h : o.getD k.toNat default = o.getD (wr .i64 (k - 1)).toNat default) : o.take k.toNat = cmpR o (k.toNat + 1) := by
  rw [wr_id (by omega) (by omega), show (k - 1).toNat = k.toNat - 1 by omega] at h
  rw [cmpR_eq (by omega) h, hc]
theorem cmp_next {o : List Int} {k : Int} (h1 : 1 ≤ k) (h2 : k ≤ 1000001) (hk : k < o.length) (hc : cmpR o k.toNat = o.take k.toNat)
    (h : ¬ o.getD k.toNat default = o.getD (wr .i64 (k - 1)).toNat default) : cmpR o (wr .i64 (k + 1)).toNat = o.take (wr .i64 (k + 1)).toNat := by
  rw [wr_id (by omega) (by omega), show (k - 1).toNat = k.toNat - 1 by omega] at h
  rw [wr_id (by omega) (by omega), show (k + 1).toNat = k.toNat + 1 by omega, cmpR_ne h, take_snoc (by omega), hc]
theorem cmp_prev {o s : List Int} {a k2 : Nat} (ha : 1 ≤ a + k2) (h2 : a + k2 ≤ 1000001) (h1 : 1 ≤ k2) (hp : ∀ p : Nat, a + k2 ≤ p + 1 → s.getD p default = o.getD p default) :
    (s.getD (a + k2) default = s.getD (a + (wr .i64 ((k2 : Int) - 1)).toNat) default) ↔ o.getD (a + k2) default = o.getD (a + k2 - 1) default := by
  rw [wr_id (by omega) (by omega), show a + ((k2 : Int) - 1).toNat = a + k2 - 1 by omega, hp _ (by omega), hp _ (by omega)]
theorem cmp_step {o s : List Int} {k : Int} {a k2 : Nat} (hl : s.length = o.length) (h1 : 1 ≤ k) (h3 : 1 ≤ k2) (h4 : k + 1 ≤ a + k2) (h5 : a + k2 < o.length) (h6 : o.length ≤ 1000000)
    (hc : s.take k.toNat = cmpR o (a + k2)) (hp : ∀ p : Nat, a + k2 ≤ p + 1 → s.getD p default = o.getD p default)
    (h : ¬ s.getD (a + k2) default = s.getD (a + (wr .i64 ((k2 : Int) - 1)).toNat) default) :
    (s.set k.toNat (s.getD (a + k2) default)).take (wr .i64 (k + 1)).toNat = cmpR o (a + (k2 + 1)) := by
  rw [cmp_prev (by omega) (by omega) h3 hp] at h
  rw [wr_id (by omega) (by omega), show (k + 1).toNat = k.toNat + 1 by omega, take_set_snoc (by omega), ← Nat.add_assoc, cmpR_ne h, hc, hp _ (by omega)]
theorem cmp_same {o s : List Int} {k : Int} {a k2 : Nat} (h3 : 1 ≤ k2) (h5 : a + k2 < o.length) (h6 : o.length ≤ 1000000)
    (hc : s.take k.toNat = cmpR o (a + k2)) (hp : ∀ p : Nat, a + k2 ≤ p + 1 → s.getD p default = o.getD p default)
    (h : s.getD (a + k2) default = s.getD (a + (wr .i64 ((k2 : Int) - 1)).toNat) default) :
    s.take k.toNat = cmpR o (a + (k2 + 1)) := by
  rw [cmp_prev (by omega) (by omega) h3 hp] at h
  rw [← Nat.add_assoc, cmpR_eq (by omega) h, hc]
theorem cmp_far {o s : List Int} {k : Int} {a k2 p : Nat} {v : Int} (h1 : 1 ≤ k) (h4 : k + 1 ≤ a + k2) (hp : ∀ p : Nat, a + k2 ≤ p + 1 → s.getD p default = o.getD p default)
    (h : a + (k2 + 1) ≤ p + 1) : (s.set k.toNat v).getD p default = o.getD p default := by
  rw [← hp p (by omega)]
  simp only [List.getD_eq_getElem?_getD]
  rw [List.getElem?_set_ne (by omega)]
theorem rows_take (s : List Int) (n : Nat) : RowsAre encInt (s.take n) (List.take (s.take n).length (Blk.rows 1 aencInt s).L) := by
  refine RowsAre.of ?_
  simp only [Blk.L, aencInt_fun, List.map_take, List.length_take]
  rw [← List.map_take, ← List.map_take]
  congr 1
  by_cases h : n ≤ s.length
  · rw [Nat.min_eq_left h]
  · rw [Nat.min_eq_right (by omega), List.take_length, List.take_of_length_le (by omega)]
theorem rows_mix (s : List Int) (k : Nat) (L M : List (List AV)) : RowsAre encInt (s.take k) (List.take (s.take k).length (Blk.raw 1 (List.take k (List.map aencInt s) ++ L ++ M)).L) := by
  refine RowsAre.of ?_
  simp only [Blk.L, List.append_assoc]
  rw [List.take_append_of_le_length (by simp), List.take_of_length_le (by simp), List.map_take, aencInt_fun]
theorem rows_all (s : List Int) : RowsAre encInt s (List.take s.length (Blk.rows 1 aencInt s).L) := by
  have := rows_take s s.length
  simpa only [List.take_length] using this
theorem cmpR_short {s : List Int} (h : (s.length : Int) < 2) : s = cmpR s s.length := by
  match s, h with
  | [], _ => rfl
  | [a], _ => rfl
  | _ :: _ :: _, h => simp only [List.length_cons] at h; omega
end Go.Proofs.Ytghkelfpomfadaa
end
section
namespace Go.Proofs.Ytghkelfpomfadaa
open Go.Ae
open Go.Ae renaming getR_eq → z1, getR_ne → z2, getR_nil → z3, lF_mk → z4, cont1 → z5, cont2a → z6, cont2b → z7, cont3a → z8, cont3b → z9, cont3c → z10, wr_up → z11, wr_dn → z12
open Go.Ae.VSub renaming any' → z13, same → z14, nilRd → z15, mtRd → z16, lit → z17, ptr' → z18, sl' → z19, slD → z20, slNil → z21, agg' → z22, tup' → z23, fn' → z24, rpSame → z25, rpF → z26, frz → z27, frzC → z28, slCD → z29
open Go.Ae.LSub renaming nil' → z30, cons' → z31, mkR' → z32
open Go.Ae.SSub renaming nil' → z33, cons' → z34
open Go.Ae.HTell renaming nil' → z35, some' → z36, freshRows → z37
open Go.Ae.BSub renaming cells' → z38, own → z39, pre → z40
open Go.Ae.RowsAre renaming map → z41, nil → z42, app → z43, spl → z44, take → z45, drop → z46, cons → z47
set_option linter.unusedSimpArgs false
set_option linter.unusedVariables false
attribute [local irreducible] wr bitsOf VSub LSub SSub HTell BSub RowIs RowsAre Ent lF mkR
def Sslices_Compact_int_c : Prop := ∀ (s : List Int) (hp0 : s.length ≤ 1000000), Does Try.prog 20 0 [.sl 0 1 0 s.length] [some (.rows 1 aencInt s)] (fun vv H2 => ∃ x : (List Int), (x = cmpR s s.length) ∧ vv = .sl 0 1 0 x.length ∧ H2 = [some (.rows 1 aencInt x)])
set_option maxRecDepth 10000 in
set_option maxHeartbeats 8000000 in
theorem layV61 : (Sslices_Compact_int_c) := by
  refine fun s hp0 => have t0 := tg 0; Exists.elim (p := fun o => o = s) ⟨s, rfl⟩ fun o_s ho_s => Does.goR Try.func20 Try.ntmps20 Try.results20 rfl (Nat.zero_le _) rfl ?_
  all_goals (
  simp only [argR, Nat.reduceAdd]
  repeat' (first
    | ((with_reducible show Aft _ _ _ _);(first|refine Aft.t ?_|refine Aft.q ?_|refine Aft.b ?_|refine Aft.e ?_|refine Aft.tr ?_|refine Aft.br ?_|refine Aft.qr ?_|refine Aft.tx ?_|refine Aft.bx ?_|refine Aft.by' rfl ?_|refine Aft.qx ?_))
    | ((with_reducible show RegS _ _ _ _ _ _);(first
      | (refine RegS.nil (hK _ _ ?_);clear hK K)
      | ((first|refine RegS.stepN fun K1 h1 => ?_|refine RegS.step fun K1 h1 => ?_);simp only [go_sem,reduceCtorEq,Nat.reduceAdd,Nat.reduceSub,Nat.reduceMul,Nat.reduceLeDiff,Nat.reduceLT,Nat.reduceEqDiff])))
    | ((with_reducible show QuietS _ _ _ _ _ _);(first
      | (refine QuietS.nil (hK _ _ ?_);clear hK K)
      | ((first|refine QuietS.stepN fun K1 h1 => ?_|refine QuietS.step fun K1 h1 => ?_);simp only [go_sem,reduceCtorEq,Nat.reduceAdd,Nat.reduceSub,Nat.reduceMul,Nat.reduceLeDiff,Nat.reduceLT,Nat.reduceEqDiff])))
    | ((with_reducible show Tri _ _ _ _ _ _);(first
      | (refine Tri.regSeq fun K hK => RegS.run ?_)
      | (refine Tri.regA fun K hK => ?_)
      | (refine Tri.cond (b := ?_) ?_ ?_ ?_;rotate_left 1;focus (simp only [ev,z1,z2,Nat.reduceEqDiff,Nat.reduceLT,not_false_eq_true];exact rfl))
      | refine Tri.skipA ?_
      | refine Tri.exitA ?_
      | refine Tri.retA ?_
      | refine Tri.block ?_
      | (guard_hyp t0;(first|(refine Tri.fastSeqN 6 rfl mixedP (by kernel_rfl) fun K hK => QuietS.run ?_)|(refine Tri.fastA 6 rfl mixedP (by kernel_rfl) fun K hK => ?_)|(refine Tri.fastSeqN 11 rfl mixedP (by kernel_rfl) fun K hK => QuietS.run ?_)|(refine Tri.fastA 11 rfl mixedP (by kernel_rfl) fun K hK => ?_) ))
      | ((with_reducible show Tri _ _ (Code.loop _) _ _ _);(first
      | (guard_hyp t0;refine Tri.loopR (ι := (List Int) × Int) 4 rfl (fun j => mkR 61 [(0,.sl 0 1 0 j.1.length),(3,.lit (.int .i64 j.2))]) (fun j => [some (.rows 1 aencInt j.1)]) (fun j => True ∧ j.1 = o_s ∧ 1 ≤ j.2 ∧ j.2 ≤ 1000001 ∧ cmpR o_s j.2.toNat = o_s.take j.2.toNat ∧ j.2 ≤ (o_s.length : Int)) (fun j => ((j.1.length : Int) - j.2).toNat) (?_,?_) (Ent.places [.slot 0] _ (by simp only [go_sem,reduceCtorEq,Nat.reduceAdd,Nat.reduceSub,Nat.reduceMul,Nat.reduceLeDiff,Nat.reduceLT,Nat.reduceEqDiff];rfl) rfl rfl (Nat.zero_le _) ?_ ?_) ?_ ?_;rotate_left 5;(focus (rintro ⟨s,k⟩ ⟨hM,hI⟩;(try dsimp only at hM hI)));rotate_right 3)
      | (guard_hyp t0;refine Tri.loopR (ι := (List Int) × Int × Nat) 9 rfl (fun j => mkR 61 [(0,.sl 0 1 0 j.1.length),(3,.lit (.int .i64 j.2.1)),(4,.sl 0 1 k.toNat (o_s.length - k.toNat)),(5,.lit (.int .i64 (j.2.2 : Int)))]) (fun j => [some (.rows 1 aencInt j.1)]) (fun j => True ∧ ((j.2.2 : Int) ≤ ((o_s.drop k.toNat).length : Int) ∨ j.2.2 = 1) ∧ 1 ≤ j.2.2 ∧ j.1.length = o_s.length ∧ 1 ≤ j.2.2 ∧ 1 ≤ j.2.1 ∧ j.2.1 + 1 ≤ k + j.2.2 ∧ k.toNat + j.2.2 ≤ o_s.length ∧ j.1.take j.2.1.toNat = cmpR o_s (k.toNat + j.2.2) ∧ (∀ p : Nat,k.toNat + j.2.2 ≤ p + 1 → j.1.getD p default = o_s.getD p default)) (fun j => (((o_s.drop k.toNat).length : Int) - (j.2.2 : Int)).toNat) (?_,?_,1) (Ent.places [.slot 0] _ (by simp only [go_sem,reduceCtorEq,Nat.reduceAdd,Nat.reduceSub,Nat.reduceMul,Nat.reduceLeDiff,Nat.reduceLT,Nat.reduceEqDiff];rfl) rfl rfl (Nat.zero_le _) ?_ ?_) ?_ ?_;rotate_left 5;(focus (rintro ⟨s,k,k2⟩ ⟨hM,hI⟩;(try dsimp only at hM hI)));rotate_right 3)
      ); (focus (repeat' (first | simp only [z1, z2, z3, Nat.reduceEqDiff, Nat.reduceLT, not_false_eq_true] | exact z30 | refine z31 ?_ ?_ | exact z33 | refine z34 ?_ ?_ | refine z32 ?_ | exact z35 | refine z36 rfl ?_ ?_ | refine z37 ?_ | exact z13 | exact z14 | exact z15 | exact z16 | refine z17 ?_ | refine z18 rfl ?_ | refine z19 rfl ?_ ?_ | (show lτ _ _ = some _; exact rfl) | exact z21 rfl rfl | refine z21 rfl ?_ | refine z22 ?_ | refine z24 ?_ | exact z25 | refine z26 ?_ rfl rfl ?_ | refine z23 ?_ | refine z27 ?_ rfl rfl ?_ ?_ | refine z28 ?_ rfl rfl ?_ ?_ ?_ | exact True.intro | exact z4 rfl | exact z5 | exact z6 | exact z7 | exact z8 | exact z9 | exact z10 | refine z38 ?_ | refine z39 rfl ?_ | exact z41 | exact z42 | refine z43 (xs := ?_) (ys := ?_) ?_ ?_ | refine z44 (xs := ?_) (ys := ?_) ?_ ?_ ?_ ?_ | refine z45 (xs := ?_) ?_ | refine z46 (xs := ?_) ?_ | refine z47 (x := ?_) (xs := ?_) ?_ ?_ | refine RowsAre.rep (x := ?_) (n := ?_) ?_ | (with_reducible show RowIs _ _ _; first | exact Int_row _ | exact Str_row _) | with_reducible exact rfl | (refine z11 ?_; omega) | (refine z12 ?_; omega) | simp only [List.length_append, List.length_map, List.length_cons, List.length_nil, List.length_set, List.length_replicate]))); (focus (repeat' (first | simp only [z1, z2, z3, Nat.reduceEqDiff, Nat.reduceLT, not_false_eq_true] | exact z30 | refine z31 ?_ ?_ | exact z33 | refine z34 ?_ ?_ | refine z32 ?_ | exact z35 | refine z36 rfl ?_ ?_ | refine z37 ?_ | exact z13 | exact z14 | exact z15 | exact z16 | refine z17 ?_ | refine z18 rfl ?_ | refine z19 rfl ?_ ?_ | (show lτ _ _ = some _; exact rfl) | exact z21 rfl rfl | refine z21 rfl ?_ | refine z22 ?_ | refine z24 ?_ | exact z25 | refine z26 ?_ rfl rfl ?_ | refine z23 ?_ | refine z27 ?_ rfl rfl ?_ ?_ | refine z28 ?_ rfl rfl ?_ ?_ ?_ | exact True.intro | exact z4 rfl | exact z5 | exact z6 | exact z7 | exact z8 | exact z9 | exact z10 | refine z38 ?_ | refine z39 rfl ?_ | exact z41 | exact z42 | refine z43 (xs := ?_) (ys := ?_) ?_ ?_ | refine z44 (xs := ?_) (ys := ?_) ?_ ?_ ?_ ?_ | refine z45 (xs := ?_) ?_ | refine z46 (xs := ?_) ?_ | refine z47 (x := ?_) (xs := ?_) ?_ ?_ | refine RowsAre.rep (x := ?_) (n := ?_) ?_ | (with_reducible show RowIs _ _ _; first | exact Int_row _ | exact Str_row _) | with_reducible exact rfl | (refine z11 ?_; omega) | (refine z12 ?_; omega) | simp only [List.length_append, List.length_map, List.length_cons, List.length_nil, List.length_set, List.length_replicate]))); rotate_left 1)
      | refine Tri.seq ?_))
    | ((with_reducible show BackG _ _);(first
      | ((first
      | (guard_hyp t0;refine backR 4 (?_,?_) (Ent.places [.slot 0] _ (by simp only [go_sem,reduceCtorEq,Nat.reduceAdd,Nat.reduceSub,Nat.reduceMul,Nat.reduceLeDiff,Nat.reduceLT,Nat.reduceEqDiff];rfl) rfl rfl (Nat.zero_le _) ?_ ?_) ?_ ?_;rotate_left 2;rotate_left 3;(focus ((try dsimp only);omega));rotate_right 3)
      | (guard_hyp t0;refine backR 9 (?_,?_,(k2 + 1)) (Ent.places [.slot 0] _ (by simp only [go_sem,reduceCtorEq,Nat.reduceAdd,Nat.reduceSub,Nat.reduceMul,Nat.reduceLeDiff,Nat.reduceLT,Nat.reduceEqDiff];rfl) rfl rfl (Nat.zero_le _) ?_ ?_) ?_ ?_;rotate_left 2;rotate_left 3;(focus ((try dsimp only);omega));rotate_right 3)
      ); (focus (repeat' (first | simp only [z1, z2, z3, Nat.reduceEqDiff, Nat.reduceLT, not_false_eq_true] | exact z30 | refine z31 ?_ ?_ | exact z33 | refine z34 ?_ ?_ | refine z32 ?_ | exact z35 | refine z36 rfl ?_ ?_ | refine z37 ?_ | exact z13 | exact z14 | exact z15 | exact z16 | refine z17 ?_ | refine z18 rfl ?_ | refine z19 rfl ?_ ?_ | (show lτ _ _ = some _; exact rfl) | exact z21 rfl rfl | refine z21 rfl ?_ | refine z22 ?_ | refine z24 ?_ | exact z25 | refine z26 ?_ rfl rfl ?_ | refine z23 ?_ | refine z27 ?_ rfl rfl ?_ ?_ | refine z28 ?_ rfl rfl ?_ ?_ ?_ | exact True.intro | exact z4 rfl | exact z5 | exact z6 | exact z7 | exact z8 | exact z9 | exact z10 | refine z38 ?_ | refine z39 rfl ?_ | exact z41 | exact z42 | refine z43 (xs := ?_) (ys := ?_) ?_ ?_ | refine z44 (xs := ?_) (ys := ?_) ?_ ?_ ?_ ?_ | refine z45 (xs := ?_) ?_ | refine z46 (xs := ?_) ?_ | refine z47 (x := ?_) (xs := ?_) ?_ ?_ | refine RowsAre.rep (x := ?_) (n := ?_) ?_ | (with_reducible show RowIs _ _ _; first | exact Int_row _ | exact Str_row _) | with_reducible exact rfl | (refine z11 ?_; omega) | (refine z12 ?_; omega) | simp only [List.length_append, List.length_map, List.length_cons, List.length_nil, List.length_set, List.length_replicate]))); (focus (repeat' (first | simp only [z1, z2, z3, Nat.reduceEqDiff, Nat.reduceLT, not_false_eq_true] | exact z30 | refine z31 ?_ ?_ | exact z33 | refine z34 ?_ ?_ | refine z32 ?_ | exact z35 | refine z36 rfl ?_ ?_ | refine z37 ?_ | exact z13 | exact z14 | exact z15 | exact z16 | refine z17 ?_ | refine z18 rfl ?_ | refine z19 rfl ?_ ?_ | (show lτ _ _ = some _; exact rfl) | exact z21 rfl rfl | refine z21 rfl ?_ | refine z22 ?_ | refine z24 ?_ | exact z25 | refine z26 ?_ rfl rfl ?_ | refine z23 ?_ | refine z27 ?_ rfl rfl ?_ ?_ | refine z28 ?_ rfl rfl ?_ ?_ ?_ | exact True.intro | exact z4 rfl | exact z5 | exact z6 | exact z7 | exact z8 | exact z9 | exact z10 | refine z38 ?_ | refine z39 rfl ?_ | exact z41 | exact z42 | refine z43 (xs := ?_) (ys := ?_) ?_ ?_ | refine z44 (xs := ?_) (ys := ?_) ?_ ?_ ?_ ?_ | refine z45 (xs := ?_) ?_ | refine z46 (xs := ?_) ?_ | refine z47 (x := ?_) (xs := ?_) ?_ ?_ | refine RowsAre.rep (x := ?_) (n := ?_) ?_ | (with_reducible show RowIs _ _ _; first | exact Int_row _ | exact Str_row _) | with_reducible exact rfl | (refine z11 ?_; omega) | (refine z12 ?_; omega) | simp only [List.length_append, List.length_map, List.length_cons, List.length_nil, List.length_set, List.length_replicate]))))
      | ((first
      | (guard_hyp t0;refine backR 4 (?_,?_) (Ent.places [.slot 0] _ (by simp only [go_sem,reduceCtorEq,Nat.reduceAdd,Nat.reduceSub,Nat.reduceMul,Nat.reduceLeDiff,Nat.reduceLT,Nat.reduceEqDiff];rfl) rfl rfl (Nat.zero_le _) ?_ ?_) ?_ ?_;rotate_left 2)
      | (guard_hyp t0;refine backR 9 (?_,?_,(k2 + 1)) (Ent.places [.slot 0] _ (by simp only [go_sem,reduceCtorEq,Nat.reduceAdd,Nat.reduceSub,Nat.reduceMul,Nat.reduceLeDiff,Nat.reduceLT,Nat.reduceEqDiff];rfl) rfl rfl (Nat.zero_le _) ?_ ?_) ?_ ?_;rotate_left 2)
      ); (focus (repeat' (first | simp only [z1, z2, z3, Nat.reduceEqDiff, Nat.reduceLT, not_false_eq_true] | exact z30 | refine z31 ?_ ?_ | exact z33 | refine z34 ?_ ?_ | refine z32 ?_ | exact z35 | refine z36 rfl ?_ ?_ | refine z37 ?_ | exact z13 | exact z14 | exact z15 | exact z16 | refine z17 ?_ | refine z18 rfl ?_ | refine z19 rfl ?_ ?_ | (show lτ _ _ = some _; exact rfl) | exact z21 rfl rfl | refine z21 rfl ?_ | refine z22 ?_ | refine z24 ?_ | exact z25 | refine z26 ?_ rfl rfl ?_ | refine z23 ?_ | refine z27 ?_ rfl rfl ?_ ?_ | refine z28 ?_ rfl rfl ?_ ?_ ?_ | exact True.intro | exact z4 rfl | exact z5 | exact z6 | exact z7 | exact z8 | exact z9 | exact z10 | refine z38 ?_ | refine z39 rfl ?_ | exact z41 | exact z42 | refine z43 (xs := ?_) (ys := ?_) ?_ ?_ | refine z44 (xs := ?_) (ys := ?_) ?_ ?_ ?_ ?_ | refine z45 (xs := ?_) ?_ | refine z46 (xs := ?_) ?_ | refine z47 (x := ?_) (xs := ?_) ?_ ?_ | refine RowsAre.rep (x := ?_) (n := ?_) ?_ | (with_reducible show RowIs _ _ _; first | exact Int_row _ | exact Str_row _) | with_reducible exact rfl | (refine z11 ?_; omega) | (refine z12 ?_; omega) | simp only [List.length_append, List.length_map, List.length_cons, List.length_nil, List.length_set, List.length_replicate]))); (focus (repeat' (first | simp only [z1, z2, z3, Nat.reduceEqDiff, Nat.reduceLT, not_false_eq_true] | exact z30 | refine z31 ?_ ?_ | exact z33 | refine z34 ?_ ?_ | refine z32 ?_ | exact z35 | refine z36 rfl ?_ ?_ | refine z37 ?_ | exact z13 | exact z14 | exact z15 | exact z16 | refine z17 ?_ | refine z18 rfl ?_ | refine z19 rfl ?_ ?_ | (show lτ _ _ = some _; exact rfl) | exact z21 rfl rfl | refine z21 rfl ?_ | refine z22 ?_ | refine z24 ?_ | exact z25 | refine z26 ?_ rfl rfl ?_ | refine z23 ?_ | refine z27 ?_ rfl rfl ?_ ?_ | refine z28 ?_ rfl rfl ?_ ?_ ?_ | exact True.intro | exact z4 rfl | exact z5 | exact z6 | exact z7 | exact z8 | exact z9 | exact z10 | refine z38 ?_ | refine z39 rfl ?_ | exact z41 | exact z42 | refine z43 (xs := ?_) (ys := ?_) ?_ ?_ | refine z44 (xs := ?_) (ys := ?_) ?_ ?_ ?_ ?_ | refine z45 (xs := ?_) ?_ | refine z46 (xs := ?_) ?_ | refine z47 (x := ?_) (xs := ?_) ?_ ?_ | refine RowsAre.rep (x := ?_) (n := ?_) ?_ | (with_reducible show RowIs _ _ _; first | exact Int_row _ | exact Str_row _) | with_reducible exact rfl | (refine z11 ?_; omega) | (refine z12 ?_; omega) | simp only [List.length_append, List.length_map, List.length_cons, List.length_nil, List.length_set, List.length_replicate]))); rotate_left 1; (focus ((try dsimp only); first | omega | (simp only [List.length_set, List.length_append, List.length_cons, List.length_nil]; omega))))
      | ((first
      | (guard_hyp t0;refine backR 4 (?_,?_) (Ent.places [.slot 0] _ (by simp only [go_sem,reduceCtorEq,Nat.reduceAdd,Nat.reduceSub,Nat.reduceMul,Nat.reduceLeDiff,Nat.reduceLT,Nat.reduceEqDiff];rfl) rfl rfl (Nat.zero_le _) ?_ ?_) ?_ ?_;rotate_left 2)
      | (guard_hyp t0;refine backR 9 (?_,?_,(k2 + 1)) (Ent.places [.slot 0] _ (by simp only [go_sem,reduceCtorEq,Nat.reduceAdd,Nat.reduceSub,Nat.reduceMul,Nat.reduceLeDiff,Nat.reduceLT,Nat.reduceEqDiff];rfl) rfl rfl (Nat.zero_le _) ?_ ?_) ?_ ?_;rotate_left 2)
      ); (focus (repeat' (first | simp only [z1, z2, z3, Nat.reduceEqDiff, Nat.reduceLT, not_false_eq_true] | exact z30 | refine z31 ?_ ?_ | exact z33 | refine z34 ?_ ?_ | refine z32 ?_ | exact z35 | refine z36 rfl ?_ ?_ | refine z37 ?_ | exact z13 | exact z14 | exact z15 | exact z16 | refine z17 ?_ | refine z18 rfl ?_ | refine z19 rfl ?_ ?_ | (show lτ _ _ = some _; exact rfl) | exact z21 rfl rfl | refine z21 rfl ?_ | refine z22 ?_ | refine z24 ?_ | exact z25 | refine z26 ?_ rfl rfl ?_ | refine z23 ?_ | refine z27 ?_ rfl rfl ?_ ?_ | refine z28 ?_ rfl rfl ?_ ?_ ?_ | exact True.intro | exact z4 rfl | exact z5 | exact z6 | exact z7 | exact z8 | exact z9 | exact z10 | refine z38 ?_ | refine z39 rfl ?_ | exact z41 | exact z42 | refine z43 (xs := ?_) (ys := ?_) ?_ ?_ | refine z44 (xs := ?_) (ys := ?_) ?_ ?_ ?_ ?_ | refine z45 (xs := ?_) ?_ | refine z46 (xs := ?_) ?_ | refine z47 (x := ?_) (xs := ?_) ?_ ?_ | refine RowsAre.rep (x := ?_) (n := ?_) ?_ | (with_reducible show RowIs _ _ _; first | exact Int_row _ | exact Str_row _) | with_reducible exact rfl | (refine z11 ?_; omega) | (refine z12 ?_; omega) | simp only [List.length_append, List.length_map, List.length_cons, List.length_nil, List.length_set, List.length_replicate]))); (focus (repeat' (first | simp only [z1, z2, z3, Nat.reduceEqDiff, Nat.reduceLT, not_false_eq_true] | exact z30 | refine z31 ?_ ?_ | exact z33 | refine z34 ?_ ?_ | refine z32 ?_ | exact z35 | refine z36 rfl ?_ ?_ | refine z37 ?_ | exact z13 | exact z14 | exact z15 | exact z16 | refine z17 ?_ | refine z18 rfl ?_ | refine z19 rfl ?_ ?_ | (show lτ _ _ = some _; exact rfl) | exact z21 rfl rfl | refine z21 rfl ?_ | refine z22 ?_ | refine z24 ?_ | exact z25 | refine z26 ?_ rfl rfl ?_ | refine z23 ?_ | refine z27 ?_ rfl rfl ?_ ?_ | refine z28 ?_ rfl rfl ?_ ?_ ?_ | exact True.intro | exact z4 rfl | exact z5 | exact z6 | exact z7 | exact z8 | exact z9 | exact z10 | refine z38 ?_ | refine z39 rfl ?_ | exact z41 | exact z42 | refine z43 (xs := ?_) (ys := ?_) ?_ ?_ | refine z44 (xs := ?_) (ys := ?_) ?_ ?_ ?_ ?_ | refine z45 (xs := ?_) ?_ | refine z46 (xs := ?_) ?_ | refine z47 (x := ?_) (xs := ?_) ?_ ?_ | refine RowsAre.rep (x := ?_) (n := ?_) ?_ | (with_reducible show RowIs _ _ _; first | exact Int_row _ | exact Str_row _) | with_reducible exact rfl | (refine z11 ?_; omega) | (refine z12 ?_; omega) | simp only [List.length_append, List.length_map, List.length_cons, List.length_nil, List.length_set, List.length_replicate]))); rotate_left 1)))
    | ((with_reducible show EndK _ _ _ _ _ _ _);(first
      | ((guard_hyp t0;refine EndK.eqw (α := (List Int)) (p := 0) (vs := ?_) (s.take k.toNat) [?_] (by first|exact .inr rfl|exact .inl rfl) ?_ ?_ ?_ (by simp) ?_ ?_ ?_;rotate_left 2);(focus (simp only [go_sem,reduceCtorEq,Nat.reduceAdd,Nat.reduceSub,Nat.reduceMul,Nat.reduceLeDiff,Nat.reduceLT,Nat.reduceEqDiff];exact rfl));rotate_left 3;(focus (repeat' (first|simp only [z1,z2,z3,Nat.reduceEqDiff,Nat.reduceLT,not_false_eq_true]|exact z30|refine z31 ?_ ?_|exact z33|refine z34 ?_ ?_|refine z32 ?_|exact z35|refine z36 rfl ?_ ?_|refine z37 ?_|exact z13|exact z14|exact z15|exact z16|refine z17 ?_|refine z18 rfl ?_|refine z20 rfl ?_ ?_|refine z29 rfl ?_ ?_|(show lτ _ _ = some _;exact rfl)|exact z21 rfl rfl|refine z21 rfl ?_|refine z22 ?_|refine z24 ?_|exact z25|refine z26 ?_ rfl rfl ?_|refine z23 ?_|refine z27 ?_ rfl rfl ?_ ?_|refine z28 ?_ rfl rfl ?_ ?_ ?_|exact True.intro|exact z4 rfl|exact z5|exact z6|exact z7|exact z8|exact z9|exact z10|refine z38 ?_|refine z40 (List.length (s.take k.toNat)) rfl ?_|exact z41|      refine RowsAre.rep (x := ?_) (n := ?_) ?_|(with_reducible show RowIs _ _ _;first|exact Int_row _|exact Str_row _)|with_reducible exact rfl|(refine z11 ?_;omega)|(refine z12 ?_;omega)|simp only [List.length_append,List.length_map,List.length_cons,List.length_nil,List.length_set,List.length_replicate])));rotate_right 1;(focus (repeat' (first|simp only [z1,z2,z3,Nat.reduceEqDiff,Nat.reduceLT,not_false_eq_true]|exact z30|refine z31 ?_ ?_|exact z33|refine z34 ?_ ?_|refine z32 ?_|exact z35|refine z36 rfl ?_ ?_|refine z37 ?_|exact z13|exact z14|exact z15|exact z16|refine z17 ?_|refine z18 rfl ?_|refine z20 rfl ?_ ?_|refine z29 rfl ?_ ?_|(show lτ _ _ = some _;exact rfl)|exact z21 rfl rfl|refine z21 rfl ?_|refine z22 ?_|refine z24 ?_|exact z25|refine z26 ?_ rfl rfl ?_|refine z23 ?_|refine z27 ?_ rfl rfl ?_ ?_|refine z28 ?_ rfl rfl ?_ ?_ ?_|exact True.intro|exact z4 rfl|exact z5|exact z6|exact z7|exact z8|exact z9|exact z10|refine z38 ?_|refine z40 (List.length (s.take k.toNat)) rfl ?_|exact z41|      refine RowsAre.rep (x := ?_) (n := ?_) ?_|(with_reducible show RowIs _ _ _;first|exact Int_row _|exact Str_row _)|with_reducible exact rfl|(refine z11 ?_;omega)|(refine z12 ?_;omega)|simp only [List.length_append,List.length_map,List.length_cons,List.length_nil,List.length_set,List.length_replicate])));(all_goals (try (with_reducible refine LenEq.mk ?_);try with_reducible exact rfl));(all_goals (try (with_reducible refine BoolIs.mk ?_);exact rfl)))
      | ((guard_hyp t0;refine EndK.eqw (α := (List Int)) (p := 0) (vs := ?_) (s) [?_] (by first|exact .inr rfl|exact .inl rfl) ?_ ?_ ?_ (by simp) ?_ ?_ ?_;rotate_left 2);(focus (simp only [go_sem,reduceCtorEq,Nat.reduceAdd,Nat.reduceSub,Nat.reduceMul,Nat.reduceLeDiff,Nat.reduceLT,Nat.reduceEqDiff];exact rfl));rotate_left 3;(focus (repeat' (first|simp only [z1,z2,z3,Nat.reduceEqDiff,Nat.reduceLT,not_false_eq_true]|exact z30|refine z31 ?_ ?_|exact z33|refine z34 ?_ ?_|refine z32 ?_|exact z35|refine z36 rfl ?_ ?_|refine z37 ?_|exact z13|exact z14|exact z15|exact z16|refine z17 ?_|refine z18 rfl ?_|refine z20 rfl ?_ ?_|refine z29 rfl ?_ ?_|(show lτ _ _ = some _;exact rfl)|exact z21 rfl rfl|refine z21 rfl ?_|refine z22 ?_|refine z24 ?_|exact z25|refine z26 ?_ rfl rfl ?_|refine z23 ?_|refine z27 ?_ rfl rfl ?_ ?_|refine z28 ?_ rfl rfl ?_ ?_ ?_|exact True.intro|exact z4 rfl|exact z5|exact z6|exact z7|exact z8|exact z9|exact z10|refine z38 ?_|refine z40 (List.length (s)) rfl ?_|exact z41|      refine RowsAre.rep (x := ?_) (n := ?_) ?_|(with_reducible show RowIs _ _ _;first|exact Int_row _|exact Str_row _)|with_reducible exact rfl|(refine z11 ?_;omega)|(refine z12 ?_;omega)|simp only [List.length_append,List.length_map,List.length_cons,List.length_nil,List.length_set,List.length_replicate])));rotate_right 1;(focus (repeat' (first|simp only [z1,z2,z3,Nat.reduceEqDiff,Nat.reduceLT,not_false_eq_true]|exact z30|refine z31 ?_ ?_|exact z33|refine z34 ?_ ?_|refine z32 ?_|exact z35|refine z36 rfl ?_ ?_|refine z37 ?_|exact z13|exact z14|exact z15|exact z16|refine z17 ?_|refine z18 rfl ?_|refine z20 rfl ?_ ?_|refine z29 rfl ?_ ?_|(show lτ _ _ = some _;exact rfl)|exact z21 rfl rfl|refine z21 rfl ?_|refine z22 ?_|refine z24 ?_|exact z25|refine z26 ?_ rfl rfl ?_|refine z23 ?_|refine z27 ?_ rfl rfl ?_ ?_|refine z28 ?_ rfl rfl ?_ ?_ ?_|exact True.intro|exact z4 rfl|exact z5|exact z6|exact z7|exact z8|exact z9|exact z10|refine z38 ?_|refine z40 (List.length (s)) rfl ?_|exact z41|      refine RowsAre.rep (x := ?_) (n := ?_) ?_|(with_reducible show RowIs _ _ _;first|exact Int_row _|exact Str_row _)|with_reducible exact rfl|(refine z11 ?_;omega)|(refine z12 ?_;omega)|simp only [List.length_append,List.length_map,List.length_cons,List.length_nil,List.length_set,List.length_replicate])));(all_goals (try (with_reducible refine LenEq.mk ?_);try with_reducible exact rfl));(all_goals (try (with_reducible refine BoolIs.mk ?_);exact rfl)))))
    | (refine h1 _ _ ?_;clear h1 K1)
    | (with_reducible refine GInt_ex _ ?_)
    | refine And.intro ?_ ?_
    | ((first|with_reducible show (_ : Int) ≤ _|with_reducible show (_ : Int) < _|with_reducible show (_ : Int) = _|with_reducible show (_ : Nat) ≤ _|with_reducible show (_ : Nat) < _|with_reducible show (_ : Nat) = _|with_reducible show ¬ _|with_reducible show _ ≠ _|with_reducible show False);omega)
    | (intro h;(try simp only [decide_eq_true_eq,decide_eq_false_iff_not,Int.not_lt,Int.not_le,beq_iff_eq,bne_iff_ne,beq_eq_false_iff_ne,bne_eq_false_iff_eq,ne_eq,Bool.not_eq_true',Bool.not_eq_false',Decidable.not_not] at h);(try contradiction)))
  all_goals (try clear h1); all_goals (try clear K1); all_goals (try clear hK); all_goals (try clear K); all_goals (try dsimp only); all_goals (try simp only [Bool.not_eq_false', Bool.not_eq_true', decide_eq_true_eq, decide_eq_false_iff_not] at *); skip
  all_goals first
    | omega
    | (guard_hyp t0;first|((with_reducible exact rows_all _))|((with_reducible exact rows_take _ _))|((with_reducible exact rows_mix _ _ _ _))|((with_reducible exact cmpR_short (by assumption)))|((with_reducible exact ho_s.symm))|((subst ho_s;omega))|((with_reducible exact cmpR_one (by subst ho_s;omega)))|((have hb := congrArg List.length ho_s;obtain ⟨e0,e1,e2,e3,e4⟩ := hI;subst e0;first|(with_reducible rfl)|omega|(simp only [List.length_drop,List.length_take];omega)|(simp (disch := omega) only [wr_id,List.length_drop,List.length_take];omega)|(with_reducible exact cmp_start e1 e2 e3 (by assumption))|(with_reducible exact cmp_next e1 e2 (by omega) e3 (by assumption))|(rw [← e3,← ho_s];congr 1;omega)))|((have hb := congrArg List.length ho_s;obtain ⟨f0,f1,f2,f3,f4,f5,f6,f7,f8⟩ := hI;simp only [List.length_drop] at f0;first|omega|(simp only [List.length_drop,List.length_set,List.length_take];omega)|(simp (disch := omega) only [wr_id,List.length_drop,List.length_set];omega)|(with_reducible exact cmp_step f2 f4 f3 (by omega) (by omega) (by omega) f7 f8 (by assumption))|(with_reducible exact cmp_same f3 (by omega) (by omega) f7 f8 (by assumption))|(with_reducible exact cmp_far f4 (by omega) f8 (by assumption))|exact f8 _ (by omega)|(rw [f7,← ho_s];congr 1;omega)))|((show cmpR o_s 1 = List.take 1 o_s;exact cmpR_one (by subst ho_s;omega)))))
theorem slices_Compact_int_c : Sslices_Compact_int_c := layV61
end Go.Proofs.Ytghkelfpomfadaa
end
